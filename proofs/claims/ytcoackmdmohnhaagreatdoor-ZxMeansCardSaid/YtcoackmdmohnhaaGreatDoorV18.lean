/- Package zx: step. -/
import Derived.Test.YtcoackmdmohnhaaGreatDoorV17
set_option linter.unusedVariables false
set_option linter.unusedSimpArgs false
set_option maxRecDepth 100000
set_option maxHeartbeats 4000000
namespace Go.Proofs.YtcoackmdmohnhaaGreatDoor
open Go.RowKit Go.Shelf
variable {t:TypeId} {N:Nat} {b:Nat} {w:World}
abbrev set9 (w:World) (b:Nat) (u0 u1 u2 u3 u4 u5 u6 u7 u8:Value):World:=((((((((w.setCell ⟨b,0,none⟩ u0).setCell ⟨b,1,none⟩ u1).setCell ⟨b,2,none⟩ u2).setCell ⟨b,3,none⟩ u3).setCell ⟨b,4,none⟩ u4).setCell ⟨b,5,none⟩ u5).setCell ⟨b,6,none⟩ u6).setCell ⟨b,7,none⟩ u7).setCell ⟨b,8,none⟩ u8
theorem Blk.set9 {z0 z1 z2 z3 z4 z5 z6 z7 z8:Value} (h:Blk w b [z0,z1,z2,z3,z4,z5,z6,z7,z8] t) (u0 u1 u2 u3 u4 u5 u6 u7 u8:Value):Blk (set9 w b u0 u1 u2 u3 u4 u5 u6 u7 u8) b [u0,u1,u2,u3,u4,u5,u6,u7,u8] t:=
 ((((((((h.set 0 u0).set 1 u1).set 2 u2).set 3 u3).set 4 u4).set 5 u5).set 6 u6).set 7 u7).set 8 u8
theorem touch_set9 (w:World) (b:Nat) (u0 u1 u2 u3 u4 u5 u6 u7 u8:Value):Touch [b] w (set9 w b u0 u1 u2 u3 u4 u5 u6 u7 u8):=
 (((((((((Touch.set1 _ _ _ _).trans (Touch.set1 _ _ _ _) (fun x hx=> .inl hx)).trans (Touch.set1 _ _ _ _) (fun x hx=> .inl hx)).trans (Touch.set1 _ _ _ _) (fun x hx=> .inl hx)).trans (Touch.set1 _ _ _ _) (fun x hx=> .inl hx)).trans (Touch.set1 _ _ _ _) (fun x hx=> .inl hx)).trans (Touch.set1 _ _ _ _) (fun x hx=> .inl hx)).trans (Touch.set1 _ _ _ _) (fun x hx=> .inl hx)).trans (Touch.set1 _ _ _ _) (fun x hx=> .inl hx))
def badAt (d:Diag) (r a o:Int):Prop:=a<0∨((if lined r then d.ln.length else d.sp.length):Int)≤a∨(r=5∧(o<0∨(d.ln.length:Int)≤o))∨(r≠5∧o≠0)
instance (d:Diag) (r a o:Int):Decidable (badAt d r a o):=by unfold badAt;infer_instance
theorem xe36_0 {p:Prop} (h:p:=by
 obtain⟨an,rfl⟩:=Int.eq_ofNat_of_zero_le (a:=a) oM;have HS2:Aside (d.step ⟨(rn:Int),(an:Int),o⟩=Diag.finish (Diag.rule {d with sc:=d.sc.form} rn an o.toNat)):=by rw[HS1.out,if_neg (fun h=>by have:=HBA.out.2 h;omega),Int.toNat_natCast];exact aside_rfl
 have HCF:Aside (({d with sc:=d.sc.form}:Diag).Inv):=HI.out.setSc (Num.check_form HI.out.ok.sc);have H102:=own102 v d W4 (HD.out.below HB4.out) HI.out.ok.sc HLN.out.2.2.1 HLN.out.2.2.2.1 HLN.out.2.2.2.2.1 HLN.out.2.2.2.2.2
 have HIA:Aside (an<(if lined (rn:Int) then({d with sc:=d.sc.form}:Diag).ln.length else({d with sc:=d.sc.form}:Diag).sp.length)):=by
  have h1:=HMZ.out;have h2:an<mz:=oM
  rw[h1]at h2;exact h2
 have HOA:Aside ((rn:Int)=5→0≤o∧o<({d with sc:=d.sc.form}:Diag).ln.length):=by
  intro h5;have h1:=HMZ.out;rw[if_pos (by rw[h5];rfl)]at h1;show 0≤o∧o<(d.ln.length:Int)
  omega
 have HWS:Aside (nb<W4.heap.size∧N≤W4.heap.size∧w.heap.size≤W4.heap.size):=by have h1:=HSZ.out;have h2:=HN4.out.lt;have h3:=HB4.out.size;have h4:=HNN.out;show _∧_;omega
 have HGW:Aside (Glob N W4):=HG4.out;clear HS1 HBA
 try clear h5
 try clear h6
 generalize hMM:Diag.rule {d with sc:=d.sc.form} rn an o.toNat=M at *;have HMM:=Lib.hid hMM;clear hMM
 cases M with
 | none =>
  cases L
  all_goals
   simp only[Bool.false_eq_true,if_true,if_false]at hmz
   go_wp2_with (first
     | (go_at_call 102;(with_reducible refine H102.mono ?_);rintro e w5 ⟨p,v5,rfl,hK5,hb5⟩;clear H102
        have hr5:=HR4.out.below hb5;have ht5:=HT4.out.below hb5;have HN5:=Lib.hid (HN4.out.below hb5);have r01:=hr5.cell 1 _ rfl;have r02:=hr5.cell 2 _ rfl;have t01:=ht5.cell 1 _ rfl;have HF:=HDO.out hK5 (HGW.out.below hb5 HWS.out.2.1) HWS.out.2.1 HCF.out.ok an o HIA.out HOA.out;rw[HMM.out]at HF;have HK5:=Lib.hid hK5;have HB5:=Lib.hid (HB4.out.trans (hb5.mono HB4.out.size))
        clear hr5 ht5 hK5 hb5)
     | ((with_reducible refine HF.mono ?_);intro e w6 hR;obtain⟨⟨q6,rfl⟩,hT6⟩:=hR;clear HF
        have hn6:Blk w6 nb _ 28:=HN5.out.touch hT6 (fun hm=>by rcases List.mem_cons.1 hm with h1|h1;(have:=HK5.out.hp;have:=HWS.out;omega);(have:=(HK5.out.own.lt nb h1).1;have:=HWS.out;omega));have HN6:=Lib.hid hn6;have HB6:Aside (Below w.heap.size w w6):=HB5.out.trans (hT6.below HB5.out.size (fun x hx=>by have h8:=HWS.out;rcases List.mem_cons.1 hx with h1|h1;(have:=HK5.out.hp;omega);(have:=(HK5.out.own.lt x h1).1;omega)));have z_c:=hn6.nine
        clear hn6 hT6))
   have hq:=HN6.out.set9 (.slice none 0 0) (.slice none 0 0) (.slice none 0 0) (.slice none 0 0) (.int .i64 0) (.int .i64 0) (.int .i64 0) (.int .i64 0) (.int .i64 0);refine bodyPost_ret (v:= .tuple #[.agg #[.slice none 0 0, .slice none 0 0, .slice none 0 0, .slice none 0 0, .int .i64 0, .int .i64 0, .int .i64 0, .int .i64 0, .int .i64 0], .int .i64 7]) (by simp[results,Tryz.results78,go_sem,hq.nine]) rfl ?_
   rw[HS2.out];exact⟨nilDV,rfl,OwnD.nilD _ _,HB6.out.trans ((touch_set9 _ _ _ _ _ _ _ _ _ _ _).below HB6.out.size (fun x hx=>by have:=HSZ.out;simp at hx;omega))⟩
 | some x=>
  have HFI:Aside ((Diag.finish (some x)).2=0→(Diag.finish (some x)).1.Inv):=fun h0=>(HCF.out.rule (i:=an) (j:=o.toNat) (r:=rn) (fun hl=>by have h1:=HIA.out;rw[if_neg hl]at h1;exact h1) HMM.out).finish h0;cases L
  all_goals
   simp only[Bool.false_eq_true,if_true,if_false]at hmz
   go_wp2_with (first
     | (go_at_call 102;(with_reducible refine H102.mono ?_);rintro e w5 ⟨p,v5,rfl,hK5,hb5⟩;clear H102
        have hr5:=HR4.out.below hb5;have ht5:=HT4.out.below hb5;have HN5:=Lib.hid (HN4.out.below hb5);have r01:=hr5.cell 1 _ rfl;have r02:=hr5.cell 2 _ rfl;have t01:=ht5.cell 1 _ rfl;have HF:=HDO.out hK5 (HGW.out.below hb5 HWS.out.2.1) HWS.out.2.1 HCF.out.ok an o HIA.out HOA.out;rw[HMM.out]at HF;have HK5:=Lib.hid hK5;have HB5:=Lib.hid (HB4.out.trans (hb5.mono HB4.out.size))
        clear hr5 ht5 hK5 hb5)
     | ((with_reducible refine HF.mono ?_);intro e w6 hR;obtain⟨rfl,v6,d6,hK6,hU6,hz6⟩:=hR;clear HF
        have hn6:Blk w6 nb _ 28:=HN5.out.touch hU6.t (fun hm=>by rcases List.mem_cons.1 hm with h1|h1;(have:=HK5.out.hp;have:=HWS.out;omega);(have:=(HK5.out.own.lt nb h1).1;have:=HWS.out;omega));have HN6:=Lib.hid hn6;have HB6:Aside (Below w.heap.size w w6):=HB5.out.trans (hU6.t.below HB5.out.size (fun x hx=>by have h8:=HWS.out;rcases List.mem_cons.1 hx with h1|h1;(have:=HK5.out.hp;omega);(have:=(HK5.out.own.lt x h1).1;omega)));have H70:=result70 hK6 (Diag.finish (some x)).2;rw[resD_finish HFI.out hz6]at H70
        clear hn6 hU6 hK6 hz6)
     | (go_at_call 70;(with_reducible refine H70.mono ?_);rintro e w7 ⟨v7,rfl,hO7,hb7⟩;clear H70
        have hn7:=HN6.out.below hb7;have HN7:=Lib.hid hn7;have HB7:Aside (Below w.heap.size w w7):=HB6.out.trans (hb7.mono HB6.out.size);have z_c:=hn7.nine
        clear hn7 hb7))
   have hq:=HN7.out.set9 (.slice v7.A1 v7.n1 v7.c1) (.slice v7.A2 v7.n2 v7.c2) (.slice v7.A3 v7.n3 v7.c3) (.slice v7.A4 v7.n4 v7.c4) (.int .i64 (Diag.finish (some x)).1.sc.a) (.int .i64 (Diag.finish (some x)).1.sc.b) (.int .i64 (Diag.finish (some x)).1.sc.c) (.int .i64 (Diag.finish (some x)).1.sc.d) (.int .i64 (Diag.finish (some x)).1.sc.k);refine bodyPost_ret (v:= .tuple #[diaV v7 (Diag.finish (some x)).1.sc, .int .i64 (Diag.finish (some x)).2]) (by simp[results,Tryz.results78,go_sem,hq.nine]) rfl ?_
   rw[HS2.out];refine⟨v7,rfl,?_,HB7.out.trans ((touch_set9 _ _ _ _ _ _ _ _ _ _ _).below HB7.out.size (fun x hx=>by have:=HSZ.out;simp at hx;omega))⟩
   exact(hO7.out.touch (touch_set9 _ _ _ _ _ _ _ _ _ _ _) (fun y hy hm=>by simp at hm;subst hm;have:=(hO7.out.lt y hy).1;have:=HWS.out;omega)).mono HWS.out.2.2):p:=h
theorem xe36_1 {p:Prop} (h:p:=by
 have HS2:Aside (d.step ⟨(rn:Int),a,o⟩=(Diag.nil,1)):=by rw[HS1.out,if_pos (HBA.out.1 oM)];exact aside_rfl
 try clear h5
 cases L
 all_goals
  simp only[Bool.false_eq_true,if_true,if_false]at hmz;go_wp2_with fail
  have hq:=HN4.out.set9 (.slice none 0 0) (.slice none 0 0) (.slice none 0 0) (.slice none 0 0) (.int .i64 0) (.int .i64 0) (.int .i64 0) (.int .i64 0) (.int .i64 0);refine bodyPost_ret (v:= .tuple #[.agg #[.slice none 0 0, .slice none 0 0, .slice none 0 0, .slice none 0 0, .int .i64 0, .int .i64 0, .int .i64 0, .int .i64 0, .int .i64 0], .int .i64 1]) (by simp[results,Tryz.results78,go_sem,hq.nine]) rfl ?_
  rw[HS2.out]
  exact⟨nilDV,rfl,OwnD.nilD _ _,HB4.out.trans ((touch_set9 _ _ _ _ _ _ _ _ _ _ _).below HB4.out.size (fun x hx=>by have:=HSZ.out;simp at hx;omega))⟩):p:=h
theorem step78 (v:DV) (d:Diag) (w:World) (hd:DRd w v d) (hI:d.Inv) (hG:Glob N w) (hN:N≤w.heap.size) (r a o:Int):
  Calls Tryz.prog 78 #[diaV v d.sc, .agg #[r,a,o]] w (RetD w.heap.size (d.step ⟨r,a,o⟩) w):=by
 have hl1:=hd.sp.len;have hl2:=hd.ln.len;have hl3:=hd.ins.len;have hl4:=hd.outs.len;have hok:=hI.ok;have o1:=hok.n1;have o2:=hok.n2;have o3:=hok.n3;have o4:=hok.n4;obtain⟨W,hW⟩:∃W,W=((w.alloc (.cells (a9 v d.sc) 28)).alloc (.cells #[r,a,o] 47)).alloc (.cells zA 28):=⟨_,rfl⟩;have hB1:Blk W w.heap.size (l9 v d.sc) 28:=by rw[hW];exact((Blk.new w _ 28).alloc _).alloc _
 have hB2:Blk W (w.heap.size+1) [r,a,o] 47:=by
  rw[hW];have h9:=(Blk.new (w.alloc (.cells (a9 v d.sc) 28)) #[r,a,o] 47).alloc (.cells zA 28);simpa using h9
 have hB3:Blk W (w.heap.size+1+1) z9 28:=by
  rw[hW];have h9:=Blk.new ((w.alloc (.cells (a9 v d.sc) 28)).alloc (.cells #[r,a,o] 47)) zA 28;simpa using h9
 have hBW:Below w.heap.size w W:=by rw[hW];exact((bR.alloc (Nat.le_refl _) _).alloc sI _).alloc (by simp;omega) _
 have hsz:W.heap.size=w.heap.size+3:=by rw[hW];simp
 generalize hnb:w.heap.size+1+1=nb at hB3;generalize hrb:w.heap.size+1=rb at hB2 hnb;have HB1:=Lib.hid hB1;have HB2:=Lib.hid hB2;have HB3:=Lib.hid hB3;have HBW:=Lib.hid hBW;have HSZ:Aside (W.heap.size=w.heap.size+3∧rb=w.heap.size+1∧nb=w.heap.size+2):=⟨hsz,hrb.symm,oM⟩;have HD:=Lib.hid hd;have HI:=Lib.hid hI;have HG:=Lib.hid (hG.below hBW hN);have HNN:Aside (N≤w.heap.size):=hN;have HLN:Aside (d.sp.length=v.n1∧d.ln.length=v.n2∧v.n1≤40∧v.n2≤100∧v.n3≤40∧v.n4≤40):=⟨hl1,hl2,oM,oM,oM,oM⟩;have HW:=Lib.hid hW;have HST:Aside (d.step ⟨r,a,o⟩=if r<1∨8<r then(Diag.nil,3) else if badAt d r a o then(Diag.nil,1) else Diag.finish (Diag.rule {d with sc:=d.sc.form} r a.toNat o.toNat)):=rfl;have r0:=hB2.cell 0 _ rfl;have r1:=hB2.cell 1 _ rfl
 have r2:=hB2.cell 2 _ rfl;have a_c:=hB1.nine;have z_c:=hB3.nine;clear hW hB1 hB2 hB3 hBW hsz hd hI hG hl1 hl2 hl3 hl4 hok o1 o2 o3 o4 hN;go_enter Tryz.func78,Tryz.ntmps78
 go_upto_region 1 with fail
 try rw[hrb]
 try rw[hnb]
 rw[←HW.out];clear hrb hnb
 by_cases hr:r<1∨8<r
 · have HS0:Aside (d.step ⟨r,a,o⟩=(Diag.nil,3)):=by rw[HST.out,if_pos hr];exact aside_rfl
   clear HST
   rcases hr with hr|hr
   all_goals
    go_wp2_with fail
    have hq:=HB3.out.set9 (.slice none 0 0) (.slice none 0 0) (.slice none 0 0) (.slice none 0 0) (.int .i64 0) (.int .i64 0) (.int .i64 0) (.int .i64 0) (.int .i64 0);refine bodyPost_ret (v:= .tuple #[.agg #[.slice none 0 0, .slice none 0 0, .slice none 0 0, .slice none 0 0, .int .i64 0, .int .i64 0, .int .i64 0, .int .i64 0, .int .i64 0], .int .i64 3]) (by simp[results,Tryz.results78,go_sem,hq.nine]) rfl ?_
    rw[HS0.out];exact⟨nilDV,rfl,OwnD.nilD _ _,HBW.out.trans ((touch_set9 _ _ _ _ _ _ _ _ _ _ _).below HBW.out.size (fun x hx=>by have:=HSZ.out;simp at hx;omega))⟩
 have hr1:1≤r:=oM
 have hr8:r≤8:=oM
 have HS1:Aside (d.step ⟨r,a,o⟩=if badAt d r a o then(Diag.nil,1) else Diag.finish (Diag.rule {d with sc:=d.sc.form} r a.toNat o.toNat)):=by rw[HST.out,if_neg hr];exact aside_rfl
 clear HST hr;obtain⟨F,f0,f1,eF,HDo⟩:=ruleF r hr1 hr8;have q0:=HG.out.rules _ _ f0;have q1:=HG.out.rules _ _ f1;obtain⟨rn,rfl⟩:=Int.eq_ofNat_of_zero_le (a:=r) oM;rw[Int.toNat_natCast]at q0 q1;have hrn1:1≤rn:=oM
 have hrn8:rn≤8:=oM
 have HDO:Aside (DoesR (rn:Int) F):=@HDo;obtain⟨mz,hmz⟩:∃mz:Nat,mz=if lined (rn:Int) then d.ln.length else d.sp.length:=⟨_,rfl⟩
 have HMZ:=Lib.hid hmz;have hmz40:mz≤100:=by have:=HLN.out;rw[hmz];split<;>omega
 clear HDo hmz f0 f1;have hx1:¬(rn:Int)<1:=oM
 have hx8:¬(8:Int)<(rn:Int):=oM
 go_upto_region 4 with fail
 obtain⟨W4,hW4⟩:∃W4,W4=W.alloc (.cells #[.bool (lined (rn:Int)), .func (.func F) #[] #[]] 146):=⟨_,rfl⟩;have hB4:Below W.heap.size W W4:=by rw[hW4];exact bR.alloc (Nat.le_refl _) _
 have hT4:Blk W4 W.heap.size [.bool (lined (rn:Int)), .func (.func F) #[] #[]] 146:=by rw[hW4];exact Blk.new _ _ _
 rw[←hW4];have hd4:=HB1.out.below hB4;have hr4:=HB2.out.below hB4;have hn4:=HB3.out.below hB4;have HG4:Aside (Glob N W4):=HG.out.below hB4 (by have:=HNN.out;have:=HSZ.out;omega);have HD4:=Lib.hid hd4;have HR4:=Lib.hid hr4;have HN4:=Lib.hid hn4;have HT4:=Lib.hid hT4;have HB4:=Lib.hid (HBW.out.trans (hB4.mono HBW.out.size));clear r0 r1 r2 q0 q1 a_c z_c;have r0:=hr4.cell 0 _ rfl;have r1:=hr4.cell 1 _ rfl;have r2:=hr4.cell 2 _ rfl;have t0:=hT4.cell 0 _ rfl;have t1:=hT4.cell 1 _ rfl;have a_c:=hd4.nine;clear hW4 hB4 hd4 hr4 hn4 hT4
 have HBA:Aside ((a<0∨(mz:Int)≤a∨((rn:Int)=5∧(o<0∨(mz:Int)≤o))∨((rn:Int)≠5∧o≠0))↔badAt d rn a o):=by
  unfold badAt;have h1:=HMZ.out
  constructor
  · rintro (h|h|⟨h,h2⟩|h)
    · exact .inl h
    · exact .inr (.inl (by by_cases hl:lined (rn:Int)=true;(rw[if_pos hl]at h1 ⊢;rw[h1]at h;exact h);(rw[if_neg hl]at h1 ⊢;rw[h1]at h;exact h)))
    · refine .inr (.inr (.inl ⟨h,?_⟩))
      rw[if_pos (by rw[h];rfl)]at h1;omega
    exact .inr (.inr (.inr h))
  rintro (h|h|⟨h,h2⟩|h)
  · exact .inl h
  · exact .inr (.inl (by by_cases hl:lined (rn:Int)=true;(rw[if_pos hl]at h1 h;rw[h1];exact h);(rw[if_neg hl]at h1 h;rw[h1];exact h)))
  · refine .inr (.inr (.inl ⟨h,?_⟩))
    rw[if_pos (by rw[h];rfl)]at h1;omega
  exact .inr (.inr (.inr h))
 have z_c:=HN4.out.nine;have hmz:mz=if lined (rn:Int) then v.n2 else v.n1:=by have h1:=HMZ.out;have h2:=HLN.out;rw[h2.1,h2.2.1]at h1;exact h1
 have hlL:∃L,lined (rn:Int)=L:=⟨_,rfl⟩;obtain⟨L,hL⟩:=hlL;rw[hL]at t0 hmz;have HLL:=Lib.hid hL;clear hL
 by_cases h1:a<0
 · exact xe36_1
 by_cases h2:(mz:Int)≤a
 · exact xe36_1
 by_cases h5:(rn:Int)=5
 · have h5e:((rn:Int)==5)=true:=by simpa using h5
   have h5n:((rn:Int) != 5)=false:=by simpa using h5
   by_cases h3:o<0
   · exact xe36_1
   by_cases h4:(mz:Int)≤o
   · exact xe36_1
   exact xe36_0
 have h5e:((rn:Int)==5)=false:=by simpa using h5
 have h5n:((rn:Int) != 5)=true:=by simpa using h5
 by_cases h6:o=0
 · have h6n:(o != 0)=false:=by simpa using h6
   exact xe36_0
 have h6n:(o != 0)=true:=by simpa using h6
 exact xe36_1
end Go.Proofs.YtcoackmdmohnhaaGreatDoor
