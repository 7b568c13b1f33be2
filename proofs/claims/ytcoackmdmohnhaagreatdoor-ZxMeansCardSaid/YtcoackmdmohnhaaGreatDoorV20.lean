/- Package zx: Plug. -/
import Derived.Test.YtcoackmdmohnhaaGreatDoorV19
import Derived.Test.YtcoackmdmohnhaaGreatDoorV8
set_option linter.unusedVariables false
set_option linter.unusedSimpArgs false
set_option maxRecDepth 100000
set_option maxHeartbeats 4000000
namespace Go.Proofs.YtcoackmdmohnhaaGreatDoor
open Go.RowKit Go.Shelf
variable {t:TypeId} {tl:List Value} {B:Nat} {N:Nat} {p:Nat} {b:Nat} {cs:List Value} {w:World} {v:DV} {d:Diag}
theorem ends_ok (h:d.check=0):d.ends.length≤40∧∀x∈d.ends,0≤x∧x<(d.sp.length:Int):=by
 obtain⟨⟨h1,h2⟩,hs,⟨hl,he⟩,hn,_,hc⟩:=check_parts h
 have hE:∀x∈d.ends,0≤x∧x<(d.sp.length:Int):=by
  intro x hx;rw[List.any_eq_false]at he;have h3:=he x hx;simp only[Diag.badEnd,outI,Bool.or_eq_true,decide_eq_true_eq,not_or]at h3;omega
 have hlen:=nodup_len hn hE;exact⟨oM,hE⟩
theorem WK.aprt' (h:WK t tl B w p v d) {t':TypeId} (hb:Blk w b cs t') (hlt:b<B):Aprt b p v w:=h.aprt hlt
def plugB (n3:Nat) (m q:Int) (i:Nat):Int:=if i<n3 then m / 2 ^ i%2 else q / 2 ^ (i-n3)%2
def plugL (n3:Nat) (m q:Int):Nat→List Int→List Spider→List Spider
 |_,[],sp=>sp
 |i,n::l,sp=>plugL n3 m q (i+1) l (sp.set n.toNat ⟨2,4*plugB n3 m q i⟩)
theorem plugL_len (n3:Nat) (m q:Int):∀(l:List Int) (i:Nat) (sp:List Spider),(plugL n3 m q i l sp).length=sp.length
 |[],i,sp=>rfl
 |n::l,i,sp=>by simp[plugL,plugL_len n3 m q l]
theorem plugL_take (n3:Nat) (m q:Int):∀(l:List Int) (i k:Nat) (n:Int) (sp:List Spider),l[k]?=some n→plugL n3 m q i (l.take (k+1)) sp=(plugL n3 m q i (l.take k) sp).set n.toNat ⟨2,4*plugB n3 m q (i+k)⟩
 |[],i,k,n,sp,h=>by simp at h
 | x::l,i,0,n,sp,h=>by
  simp at h
  subst h;simp[plugL]
 | x::l,i,k+1,n,sp,h=>by
  have ih:=plugL_take n3 m q l (i+1) k n (sp.set x.toNat ⟨2,4*plugB n3 m q i⟩) sH;rw[show i+1+k=i+(k+1) by omega]at ih;simp only[List.take_succ_cons,plugL]at ih ⊢;exact ih
def Diag.plug (d:Diag) (m q:Int):Diag × Int:=
 if d.check≠0 then(Diag.nil,d.check)
 else if m<0∨2 ^ d.ins.length≤m∨q<0∨2 ^ d.outs.length≤q then(Diag.nil,3)
 else
  let r:=d.sc.form.power (-(d.ends.length:Int))
  if r.2≠0 then(Diag.nil,r.2) else({sp:=plugL d.ins.length m q 0 d.ends d.sp,ln:=d.ln,ins:=[],outs:=[],sc:=r.1},0)
theorem xe53_0 {p:Prop} (h:p:=by
 have HE:Aside (d.plug m q=(Diag.nil,3)):=by
  show _=_
  rw[HP0.out,if_pos oM]
 go_wp2_with fail
 have hq:=HZ1.out.set9 (.slice none 0 0) (.slice none 0 0) (.slice none 0 0) (.slice none 0 0) (.int .i64 0) (.int .i64 0) (.int .i64 0) (.int .i64 0) (.int .i64 0);refine bodyPost_ret (v:= .tuple #[.agg #[.slice none 0 0, .slice none 0 0, .slice none 0 0, .slice none 0 0, .int .i64 0, .int .i64 0, .int .i64 0, .int .i64 0, .int .i64 0], .int .i64 3]) (by simp[results,Tryz.results25,go_sem,hq.nine]) rfl ?_
 rw[HE.out]
 exact⟨nilDV,rfl,OwnD.nilD _ _,HL1.out.trans ((touch_set9 _ _ _ _ _ _ _ _ _ _ _).below HL1.out.size (fun x hx=>by have:=HSZ.out;simp at hx;omega))⟩):p:=h
theorem plug25 (v:DV) (d:Diag) (w:World) (hd:DRd w v d) (hs:v.n3+v.n4≤4398046511104) (hG:Glob N w) (hN:N≤w.heap.size) (m q:Int):
  Calls Tryz.prog 25 #[diaV v d.sc,m,q] w (RetD w.heap.size (d.plug m q) w):=by
 obtain⟨W,hW⟩:∃W,W=((w.alloc (.cells (a9 v d.sc) 28)).alloc (.cells zA 28)):=⟨_,rfl⟩
 have hX1:Blk W w.heap.size (l9 v d.sc) 28:=by
  rw[hW];have h9:=((Blk.new w (a9 v d.sc) 28).alloc (.cells zA 28));simpa using h9
 have hX2:Blk W (w.heap.size+1) z9 28:=by
  rw[hW];have h9:=(Blk.new (w.alloc (.cells (a9 v d.sc) 28)) zA 28);simpa using h9
 have hBW:Below w.heap.size w W:=by rw[hW];exact(bR.alloc (by simp;try omega) _).alloc (by simp;try omega) _
 have hsz:W.heap.size=w.heap.size+2:=by rw[hW];simp
 generalize hX2b:w.heap.size+1=X2b at hX2;have H51:=opened51 v d W (hd.below hBW) hs;have l3:=hd.ins.len;have l4:=hd.outs.len;have HB1:=Lib.hid hX1;have HB3:=Lib.hid hX2;have HBW:=Lib.hid hBW;have HSZ:Aside (W.heap.size=w.heap.size+2∧X2b=w.heap.size+1):=⟨hsz,hX2b.symm⟩;have HD:=Lib.hid (hd.below hBW);have HG:=Lib.hid (hG.below hBW hN);have HNN:Aside (N≤w.heap.size):=hN;have HW:=Lib.hid hW;have a_c:=hX1.nine;clear hW hX1 hX2 hBW hsz hd hG hN
 by_cases hc:d.check=0
 · have HEN:Aside (d.ends.length≤40∧∀x∈d.ends,0≤x∧x<(d.sp.length:Int)):=ends_ok hc
   have hel:d.ends.length=v.n3+v.n4:=by
    have:d.ends.length=d.ins.length+d.outs.length:=List.length_append;omega
   have hn34:v.n3+v.n4≤40:=by have:=HEN.out.1;omega
   have HOK:Aside d.Ok:=Diag.ok_of_check hc;have HSC:Aside (d.sc.form.check=0):=Num.check_form (Diag.ok_of_check hc).sc
   have HP0:Aside (d.plug m q=if m<0∨2 ^ v.n3≤m∨q<0∨2 ^ v.n4≤q then(Diag.nil,3) else if (d.sc.form.power (-((v.n3:Int)+(v.n4:Int)))).2≠0 then(Diag.nil,(d.sc.form.power (-((v.n3:Int)+(v.n4:Int)))).2) else({sp:=plugL v.n3 m q 0 d.ends d.sp,ln:=d.ln,ins:=[],outs:=[],sc:=(d.sc.form.power (-((v.n3:Int)+(v.n4:Int)))).1},0)):=by
    show d.plug m q=_
    unfold Diag.plug;rw[if_neg (by simpa using hc),l3,l4,hel,Int.natCast_add]
   have HLE:Aside (d.ends.length=v.n3+v.n4∧d.ins.length=v.n3∧d.outs.length=v.n4):=⟨hel,l3,l4⟩;simp only[if_pos hc]at H51;obtain⟨P,hP⟩:∃P:Nat,P=2 ^ v.n3:=⟨_,rfl⟩;obtain⟨Q,hQ⟩:∃Q:Nat,Q=2 ^ v.n4:=⟨_,rfl⟩;have hP1:P≤1099511627776:=by rw[hP];exact Nat.le_trans (Nat.pow_le_pow_right dE (show _≤40 by omega)) dE
   have hQ1:Q≤1099511627776:=by rw[hQ];exact Nat.le_trans (Nat.pow_le_pow_right dE (show _≤40 by omega)) dE
   have hPz:(2:Int) ^ v.n3=(P:Int):=by rw[hP];simp
   have hQz:(2:Int) ^ v.n4=(Q:Int):=by rw[hQ];simp
   have hPw:IntKind.i64.wrap (P:Int)=(P:Int):=IntWalk.i64_in _ oM;have hQw:IntKind.i64.wrap (Q:Int)=(Q:Int):=IntWalk.i64_in _ oM;have hz3:(v.n3:Int)≤64:=oM
   have hz4:(v.n4:Int)≤64:=oM
   rw[hPz,hQz]at HP0;clear hc hP hQ hel l3 l4;go_enter Tryz.func25,Tryz.ntmps25
   go_upto_region 1 with fail
   try rw[hX2b]
   rw[←HW.out];clear hX2b
   go_upto_region 4 with (go_at_call 51;(with_reducible refine H51.mono ?_);rintro e w1 ⟨hb1,p,v1,rfl,hK1⟩;clear H51
                          have b_c:=(HB1.out.below hb1).nine;have z_c:=(HB3.out.below hb1).nine;have HK1:=Lib.hid hK1;have HB1x:=Lib.hid hb1;have HZ1:=Lib.hid (HB3.out.below hb1);have HL1:Aside (Below w.heap.size w w1):=HBW.out.trans (hb1.mono HBW.out.size)
                          clear hb1 hK1 a_c)
   by_cases h1:m<0
   · exact xe53_0
   by_cases h2:(P:Int)≤m
   · exact xe53_0
   by_cases h3:q<0
   · exact xe53_0
   by_cases h4:(Q:Int)≤q
   · exact xe53_0
   have HP1:Aside (d.plug m q=if (d.sc.form.power (-((v.n3:Int)+(v.n4:Int)))).2≠0 then(Diag.nil,(d.sc.form.power (-((v.n3:Int)+(v.n4:Int)))).2) else({sp:=plugL v.n3 m q 0 d.ends d.sp,ln:=d.ln,ins:=[],outs:=[],sc:=(d.sc.form.power (-((v.n3:Int)+(v.n4:Int)))).1},0)):=by
    show _=_
    rw[HP0.out,if_neg oM]
   clear HP0;have H80:=ends80f v d.sc d w1 (HD.out.below HB1x.out) hs;have HK1s:Aside (WK 83 [] W.heap.size w1 p v1 {d with sc:=d.sc.form}):=HK1.out
   go_wp2_with (go_at_call 80;(with_reducible refine H80.mono ?_);rintro e w2 ⟨EA,ec,rfl,hE,hfr,hb2⟩;clear H80
                have HE2:=Lib.hid hE;have HFR:Aside (∀a,EA=some a→w1.heap.size≤a.block):=hfr;have HB2:=Lib.hid hb2;have HK2:=Lib.hid (HK1.out.below hb2);have HX2:=Lib.hid ((HB1.out.below HB1x.out).below hb2)
                clear hE hfr hb2 b_c z_c)
   go_loopg [48] (v.n3+v.n4) (fun gg s48 wr=>∃i:Nat,i≤v.n3+v.n4∧v.n3+v.n4-i≤gg∧s48=i∧Aside (WK 83 [] W.heap.size wr p v1 {d with sc:=d.sc.form,sp:=plugL v.n3 m q 0 (d.ends.take i) d.sp})∧Aside (Touch (ownB v1.A1) w2 wr))
   case atStart=>exact⟨0,Nat.zero_le _,oM,rfl,HK2.out,Touch.refl _ _⟩
   obtain⟨i,hi,hg,rfl,hK,hT⟩:=hrel;have HXr:=(HX2.out.touch hT.out (fun hm=>by have h8:=(HK1.out.own.lt _ (show w.heap.size∈blks v1 by simp[blks,hm])).1;have:=HSZ.out;omega));have b_c:=HXr.nine
   by_cases hlt:i<v.n3+v.n4
   · have hltz:(i:Int)<((v.n3+v.n4:Nat):Int):=oM
     obtain⟨x,hx⟩:=get_of (l:=d.ends) (n:=i) (by rw[HLE.out.1];exact hlt);obtain⟨hx0,hx1⟩:=HEN.out.2 x (List.mem_of_getElem? hx);obtain⟨xn,rfl⟩:=Int.eq_ofNat_of_zero_le hx0;have hr9:=HE2.out.touch hT.out (fun y hy a ha=>by have h8:=(HK1.out.own.lt y (by simp[blks,hy])).2;have h7:=HFR.out a ha;omega);obtain⟨eb,eo,hEA,_,q0⟩:=hr9.at1 hx rfl;have hxl:xn<(plugL v.n3 m q 0 (d.ends.take i) d.sp).length:=by rw[plugL_len];omega
     obtain⟨sx,hsx⟩:=get_of (l:=plugL v.n3 m q 0 (d.ends.take i) d.sp) hxl;obtain⟨g,hA,k0,k1,kf⟩:=hK.out.own.spAt hsx;have hTK:=plugL_take v.n3 m q d.ends 0 i xn d.sp hx;rw[Nat.zero_add,Int.toNat_natCast]at hTK
     have hbit:plugB v.n3 m q i=0∨plugB v.n3 m q i=1:=by
      unfold plugB
      split<;>omega
     have HPB:Aside (plugB v.n3 m q i=if i<v.n3 then m / 2 ^ i%2 else q / 2 ^ (i-v.n3)%2):=rfl;obtain⟨bt,hbt⟩:∃bt,bt=plugB v.n3 m q i:=⟨_,rfl⟩;rw[←hbt]at hbit hTK HPB;have hw4:IntKind.i64.wrap (4*bt)=4*bt:=IntWalk.i64_in _ oM;have h1:=hK.out.rowSp hA hsx (y:=⟨2,sx.phase⟩) 0 dE (.int .i64 2) rfl;have hs2:((plugL v.n3 m q 0 (d.ends.take i) d.sp).set xn ⟨2,sx.phase⟩)[xn]?=some ⟨2,sx.phase⟩:=by rw[List.getElem?_set_self hxl]
     have h2:=h1.1.rowSp hA hs2 (y:=⟨2,4*bt⟩) 1 dE (.int .i64 (4*bt)) rfl;have hK9:=h2.1;simp only[List.set_set,Nat.add_zero]at hK9;rw[←hTK]at hK9;have HK9:=Lib.hid hK9;have HT9:Aside (Touch (ownB v1.A1) w2 ((wr.setCell ⟨g,xn*2,none⟩ (.int .i64 2)).setCell ⟨g,xn*2+1,none⟩ (.int .i64 (4*bt)))):=(hT.out.trans (Touch.set1 _ _ _ _) (fun y hy=>by simp at hy;subst hy;rw[hA];exact .inl (by simp[ownB]))).trans (Touch.set1 _ _ _ _) (fun y hy=>by simp at hy;subst hy;rw[hA];exact .inl (by simp[ownB]));obtain⟨c0,c1,c2,c3,c4,c5,c6,c7,c8,cf⟩:=hK.out.nine
     have hxn:(xn:Int)<(v1.n1:Int):=by
      have h9:=HK1.out.own.n1;have h8:({d with sc:=d.sc.form}:Diag).sp.length=d.sp.length:=rfl;omega
     have hiz:(i:Int)≤64:=oM
     rw[hA]at c0;have HAA:=Lib.hid hA;clear hx hr9 hxl hsx hTK hbt h1 hs2 h2 hK9 hx0 hx1 hA;rw[hEA]
     by_cases h3i:i<v.n3
     · have h3z:(i:Int)<(v.n3:Int):=oM
       have hand:=i64_and1 (m / 2 ^ i);have hb9:m / 2 ^ i%2=bt:=by rw[HPB.out,if_pos h3i]
       go_wp2_with fail
       rw[←hEA];clear hEA
       go_roundg (v.n3+v.n4-(i+1))
       case measure=>omega
       exact⟨i+1,oM,Nat.le_refl _,nX,HK9.out,HT9.out⟩
     have h3z:¬(i:Int)<(v.n3:Int):=oM
     have hand:=i64_and1 (m / 2 ^ i);have hand2:=i64_and1 (q / 2 ^ (i-v.n3));have hsub:(i:Int)-(v.n3:Int)=((i-v.n3:Nat):Int):=oM
     have hsz3:((i-v.n3:Nat):Int)≤64:=oM
     have hb9:q / 2 ^ (i-v.n3)%2=bt:=by rw[HPB.out,if_neg h3i]
     go_wp2_with fail
     rw[←hEA];clear hEA
     go_roundg (v.n3+v.n4-(i+1))
     case measure=>omega
     exact⟨i+1,oM,Nat.le_refl _,nX,HK9.out,HT9.out⟩
   have hltz:¬(i:Int)<((v.n3+v.n4:Nat):Int):=oM
   have hK0:=hK.out;rw[List.take_of_length_le (by rw[HLE.out.1];omega)]at hK0;obtain⟨c0,c1,c2,c3,c4,c5,c6,c7,c8,cf⟩:=hK0.nine;have h1:=hK0.putIns (S:=[]) (Touch.refl _ _) sI (A:=none) (n:=0) (c:=0) (xs:=[]) ⟨rfl, .inl ⟨rfl,rfl⟩⟩ (by simp[ownB]);have h2:=h1.1.putOuts (S:=[]) (Touch.refl _ _) sI (A:=none) (n:=0) (c:=0) (xs:=[]) ⟨rfl, .inl ⟨rfl,rfl⟩⟩ (by simp[ownB]);have HU14:=Lib.hid (h1.2.trans h2.2);have HK14:=Lib.hid h2.1;have hpB:W.heap.size≤p:=hK0.hp;have hlowr:Below W.heap.size W wr:=HB1x.out.trans ((HB2.out.mono HB1x.out.size).trans (hT.out.below (Nat.le_trans HB1x.out.size HB2.out.size) (fun y hy=>(HK1.out.own.lt y (by simp[blks,hy])).1)));have HLR:=Lib.hid hlowr
   have HZr:=Lib.hid ((HZ1.out.below HB2.out).touch hT.out (fun hm=>by have h8:=(HK1.out.own.lt _ (show X2b∈blks v1 by simp[blks,hm])).1;have:=HSZ.out;omega))
   go_upto_region 15 with fail
   obtain⟨W14,hW14⟩:∃W14,W14=(wr.setCell ⟨p,2,none⟩ (.slice none 0 0)).setCell ⟨p,3,none⟩ (.slice none 0 0):=⟨_,rfl⟩;rw[←hW14];have hk14:=HK14.out;have hu14:=HU14.out;rw[←hW14]at hk14 hu14;have hT14:Touch [p] wr W14:=by rw[hW14];exact(Touch.set1 _ _ _ _).trans (Touch.set1 _ _ _ _) (fun y hy=> .inl hy)
   have hlow14:Below W.heap.size W W14:=hlowr.trans (hT14.below hlowr.size (fun y hy=>by simp at hy;omega));have hx14:=HXr.touch hT14 (fun hm=>by simp at hm;have:=HSZ.out;omega);have hz14:=HZr.out.touch hT14 (fun hm=>by simp at hm;have:=HSZ.out;omega);have H80':=ends80f v d.sc d W14 (HD.out.below hlow14) hs;have HKK:=Lib.hid hk14;have HLO:=Lib.hid hlow14;have HZ14:=Lib.hid hz14;clear c0 c1 c2 c3 c4 c5 c6 c7 c8 cf h1 h2 hW14 hT14 hu14 hk14 hlow14 hz14 hlowr hK0 b_c;have b_c:=hx14.nine
   have HSL:Aside ((plugL v.n3 m q 0 d.ends d.sp).length≤40∧d.ln.length≤100):=by
    have h9:=HOK.out;show _∧_
    rw[plugL_len];exact⟨h9.n1,h9.n2⟩
   clear hx14 HXr
   go_wp2_with (first
     | (go_at_call 80;(with_reducible refine H80'.mono ?_);rintro e w5 ⟨EA',ec',rfl,hE',_,hb5⟩;clear H80'
        have hk5:=HKK.out.below hb5;have H81:=power81 (N:=N) hk5 ((HG.out.below HLO.out (by have:=HNN.out;have:=HSZ.out;omega)).below hb5 (by have:=HNN.out;have:=HSZ.out;have:=HLO.out.size;omega)) (by have:=HNN.out;have:=HSZ.out;omega) (-((v.n3:Int)+(v.n4:Int))) oM oM HSC.out;have HZ5:=Lib.hid (HZ14.out.below hb5);have HL5:=Lib.hid (HLO.out.trans (hb5.mono HLO.out.size));have HK5:=Lib.hid hk5
        clear hb5 hk5 hE')
     | (go_at_call 81;(with_reducible refine H81.mono ?_);rintro e w6 ⟨rfl,hK6,hU6⟩;clear H81
        have hz6:=HZ5.out.upd (HK5.out.aprt' HZ5.out (by have:=HSZ.out;omega)) hU6;have HZ6:=Lib.hid hz6;have HL6:Aside (Below W.heap.size W w6):=HL5.out.trans (HK5.out.below_of hU6 HL5.out.size);have H70:=result70 hK6 (d.sc.form.power (-((v.n3:Int)+(v.n4:Int)))).2
        clear hK6 hU6 hz6)
     | (go_at_call 70;(with_reducible refine H70.mono ?_);rintro e w7 ⟨v7,rfl,hO7,hb7⟩;clear H70
        have hz7:=HZ6.out.below hb7;have z_c:=hz7.nine;have HZ7:=Lib.hid hz7;have HL7:=Lib.hid (HL6.out.trans (hb7.mono HL6.out.size))
        clear hz7 hb7))
   have HPL:Aside (d.plug m q=(resD ({sp:=plugL v.n3 m q 0 d.ends d.sp,ln:=d.ln,ins:=[],outs:=[],sc:=(d.sc.form.power (-((v.n3:Int)+(v.n4:Int)))).1}:Diag) (d.sc.form.power (-((v.n3:Int)+(v.n4:Int)))).2)):=by
    show _=_
    rw[HP1.out];unfold resD
    by_cases h9:(d.sc.form.power (-((v.n3:Int)+(v.n4:Int)))).2=0
    · rw[if_neg (by simpa using h9),if_neg (by simpa using h9),if_neg (by have h8:=HSL.out;show¬(40<(plugL v.n3 m q 0 d.ends d.sp).length∨100<d.ln.length);omega)]
    rw[if_pos (by simpa using h9),if_pos (by simpa using h9)]
   have hq:=HZ7.out.set9 (.slice v7.A1 v7.n1 v7.c1) (.slice v7.A2 v7.n2 v7.c2) (.slice v7.A3 v7.n3 v7.c3) (.slice v7.A4 v7.n4 v7.c4) (.int .i64 (resD ({sp:=plugL v.n3 m q 0 d.ends d.sp,ln:=d.ln,ins:=[],outs:=[],sc:=(d.sc.form.power (-((v.n3:Int)+(v.n4:Int)))).1}:Diag) (d.sc.form.power (-((v.n3:Int)+(v.n4:Int)))).2).1.sc.a) (.int .i64 (resD ({sp:=plugL v.n3 m q 0 d.ends d.sp,ln:=d.ln,ins:=[],outs:=[],sc:=(d.sc.form.power (-((v.n3:Int)+(v.n4:Int)))).1}:Diag) (d.sc.form.power (-((v.n3:Int)+(v.n4:Int)))).2).1.sc.b) (.int .i64 (resD ({sp:=plugL v.n3 m q 0 d.ends d.sp,ln:=d.ln,ins:=[],outs:=[],sc:=(d.sc.form.power (-((v.n3:Int)+(v.n4:Int)))).1}:Diag) (d.sc.form.power (-((v.n3:Int)+(v.n4:Int)))).2).1.sc.c) (.int .i64 (resD ({sp:=plugL v.n3 m q 0 d.ends d.sp,ln:=d.ln,ins:=[],outs:=[],sc:=(d.sc.form.power (-((v.n3:Int)+(v.n4:Int)))).1}:Diag) (d.sc.form.power (-((v.n3:Int)+(v.n4:Int)))).2).1.sc.d) (.int .i64 (resD ({sp:=plugL v.n3 m q 0 d.ends d.sp,ln:=d.ln,ins:=[],outs:=[],sc:=(d.sc.form.power (-((v.n3:Int)+(v.n4:Int)))).1}:Diag) (d.sc.form.power (-((v.n3:Int)+(v.n4:Int)))).2).1.sc.k)
   refine bodyPost_ret (v:= .tuple #[diaV v7 (resD ({sp:=plugL v.n3 m q 0 d.ends d.sp,ln:=d.ln,ins:=[],outs:=[],sc:=(d.sc.form.power (-((v.n3:Int)+(v.n4:Int)))).1}:Diag) (d.sc.form.power (-((v.n3:Int)+(v.n4:Int)))).2).1.sc, .int .i64 (resD ({sp:=plugL v.n3 m q 0 d.ends d.sp,ln:=d.ln,ins:=[],outs:=[],sc:=(d.sc.form.power (-((v.n3:Int)+(v.n4:Int)))).1}:Diag) (d.sc.form.power (-((v.n3:Int)+(v.n4:Int)))).2).2]) (by simp[results,Tryz.results25,go_sem,hq.nine]) rfl ?_
   rw[HPL.out];have HLF:Below w.heap.size w w7:=HBW.out.trans (HL7.out.mono HBW.out.size);exact⟨v7,rfl,(show Aside _ from(hO7.out.touch (touch_set9 _ _ _ _ _ _ _ _ _ _ _) (fun y hy hm=>by simp at hm;have h1:=(hO7.out.lt y hy).1;have:=HSZ.out;omega)).mono HBW.out.size),HLF.trans ((touch_set9 _ _ _ _ _ _ _ _ _ _ _).below HLF.size (fun x hx=>by have:=HSZ.out;simp at hx;omega))⟩
 have HS0:Aside (d.plug m q=(Diag.nil,d.check)):=by
  show d.plug m q=_
  unfold Diag.plug;rw[if_pos (by simpa using hc)]
 have hc1:(d.check != 0)=true:=by simpa using hc
 simp only[if_neg hc]at H51;generalize d.check=ck at *;clear hc;go_enter Tryz.func25,Tryz.ntmps25
 go_upto_region 1 with fail
 try rw[hX2b]
 rw[←HW.out];clear hX2b
 go_wp2_with (go_at_call 51;(with_reducible refine H51.mono ?_);rintro e w1 ⟨hb1,rfl⟩;clear H51
              have hn1:=HB3.out.below hb1;have HN1:=Lib.hid hn1;have z_c:=hn1.nine
              have HB2x:=Lib.hid (HBW.out.trans (hb1.mono HBW.out.size));clear hb1 hn1)
 have hq:=HN1.out.set9 (.slice none 0 0) (.slice none 0 0) (.slice none 0 0) (.slice none 0 0) (.int .i64 0) (.int .i64 0) (.int .i64 0) (.int .i64 0) (.int .i64 0);refine bodyPost_ret (v:= .tuple #[.agg #[.slice none 0 0, .slice none 0 0, .slice none 0 0, .slice none 0 0, .int .i64 0, .int .i64 0, .int .i64 0, .int .i64 0, .int .i64 0],ck]) (by simp[results,Tryz.results25,go_sem,hq.nine]) rfl ?_
 rw[HS0.out];exact⟨nilDV,rfl,OwnD.nilD _ _,HB2x.out.trans ((touch_set9 _ _ _ _ _ _ _ _ _ _ _).below HB2x.out.size (fun x hx=>by have:=HSZ.out;simp at hx;omega))⟩
end Go.Proofs.YtcoackmdmohnhaaGreatDoor
