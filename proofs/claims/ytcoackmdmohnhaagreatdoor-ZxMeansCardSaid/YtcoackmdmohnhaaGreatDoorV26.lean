/- Package zx: next. -/
import Derived.Test.YtcoackmdmohnhaaGreatDoorV25
import Derived.WalkMore
set_option linter.unusedVariables false
set_option linter.unusedSimpArgs false
set_option maxRecDepth 100000
set_option maxHeartbeats 40000000
namespace Go.Proofs.YtcoackmdmohnhaaGreatDoor
open Go.RowKit Go.Shelf
variable {N:Nat}
def RetN (B:Nat) (r:Option (Rewrite × Diag)) (w:World) (e:Ending) (w':World):Prop:=Below w.heap.size w w'∧match r with
 |none=>e= .returned (.tuple #[.agg #[.int .i64 0, .int .i64 0, .int .i64 0],diaV nilDV Diag.nil.sc, .bool false])
 |some (s,d)=>∃v,e= .returned (.tuple #[.agg #[.int .i64 s.rule, .int .i64 s.at_, .int .i64 s.other],diaV v d.sc, .bool true])∧OwnD B w' v d
theorem xe41_2 {p:Prop} (h:p:=by
 clear hd
 have hu:u=wq.drew∨u=(((wq.setCell ⟨rb,0,none⟩ (.int .i64 rn)).setCell ⟨rb,1,none⟩ (.int .i64 ii)).setCell ⟨rb,2,none⟩ (.int .i64 k)).drew:=by
  by_cases hq0:l 2=false
  · exact .inl (hG.1 hq0)
  exact .inr (hG.2.1 (by simpa using hq0) (hno 3 kR))
 have hb28:Blk u w5.heap.size [.slice v5.A1 v5.n1 v5.c1, .slice v5.A2 v5.n2 v5.c2, .slice v5.A3 v5.n3 v5.c3, .slice v5.A4 v5.n4 v5.c4, .int .i64 d3.sc.a, .int .i64 d3.sc.b, .int .i64 d3.sc.c, .int .i64 d3.sc.d, .int .i64 d3.sc.k] 28:=by rcases hu with rfl|rfl<;>first|exact HN0.out|exact HN1.out
 have hb47:Blk u wd.heap.size [.int .i64 rn, .int .i64 ii, .int .i64 k] 47:=by rcases hu with rfl|rfl<;>first|exact HM0.out|exact HM1.out
 obtain⟨c0,c1,c2,c3,c4,c5,c6,c7,c8,cf⟩:=hb28.nine;have g0:=hb47.cell 0 _ rfl;have g1:=hb47.cell 1 _ rfl;have g2:=hb47.cell 2 _ rfl;clear hb28 hb47 hu;go_simp
 exact hK _ _ rfl trivial sG):p:=h
theorem xe41_0 {p:Prop} (h:p:=by
 dsimp only[fil,fls,fl,List.toList_toArray,Nat.reduceAdd];refine⟨?_,?_,?_,?_,?_,trivial⟩
 all_goals intro l x u hG hno hli hpre hd K hK
 · exact xe41_2
 · exact xe41_2
 · have e0:x 85= .agg #[.int .i64 rn, .int .i64 ii, .int .i64 k]:=hd ⟨0, .data⟩ sI rfl;clear hd;simp only[e0]at hK ⊢;obtain rfl:=hG.1 hli;have j0:=HY2.out.cell 0 _ rfl;have j1:=HY2.out.cell 1 _ rfl;have j2:=HY2.out.cell 2 _ rfl;have jf:=HY2.out.free;go_simp
   exact hK undef _ trivial trivial ⟨fun h=>by simp at h,fun _ _=>rfl,fun h=>by simp[hno 3 kR]at h⟩
 · have e1:x 86= .agg #[.slice v5.A1 v5.n1 v5.c1, .slice v5.A2 v5.n2 v5.c2, .slice v5.A3 v5.n3 v5.c3, .slice v5.A4 v5.n4 v5.c4, .int .i64 d3.sc.a, .int .i64 d3.sc.b, .int .i64 d3.sc.c, .int .i64 d3.sc.d, .int .i64 d3.sc.k]:=hd ⟨1, .data⟩ sI rfl;clear hd;simp only[e1]at hK ⊢;obtain rfl:=hG.2.1 (hpre 2 kR) hli;obtain⟨z0,z1,z2,z3,z4,z5,z6,z7,z8,zf⟩:=HY4.out.nine;go_simp
   exact hK undef _ trivial trivial ⟨fun h=>by simp[hpre 2 kR]at h,fun _ h=>by simp at h,fun _=>rfl⟩
 clear hd;go_simp
 exact hK _ _ rfl trivial sG):p:=h
theorem xe41_1 {p:Prop} (h:p:=by
 dsimp only[fil,fls,fl,List.toList_toArray,Nat.reduceAdd];rintro l_4 x4 u4' hall hG ⟨-,-,-,-,e4,-⟩;generalize x4 4=z4 at e4 ⊢;subst e4;have hu:=hG.2.2 (hall 3 dE);clear hall hG;have hs:=((HY2.out.set 0 (.int .i64 rn)).set 1 (.int .i64 ii)).set 2 (.int .i64 k);have hq:=(HY4.out.set9 (.slice v5.A1 v5.n1 v5.c1) (.slice v5.A2 v5.n2 v5.c2) (.slice v5.A3 v5.n3 v5.c3) (.slice v5.A4 v5.n4 v5.c4) (.int .i64 d3.sc.a) (.int .i64 d3.sc.b) (.int .i64 d3.sc.c) (.int .i64 d3.sc.d) (.int .i64 d3.sc.k)).drew
 have ht:=(hs.touch (touch_set9 (((wq.setCell ⟨rb,0,none⟩ (.int .i64 rn)).setCell ⟨rb,1,none⟩ (.int .i64 ii)).setCell ⟨rb,2,none⟩ (.int .i64 k)) nb (.slice v5.A1 v5.n1 v5.c1) (.slice v5.A2 v5.n2 v5.c2) (.slice v5.A3 v5.n3 v5.c3) (.slice v5.A4 v5.n4 v5.c4) (.int .i64 d3.sc.a) (.int .i64 d3.sc.b) (.int .i64 d3.sc.c) (.int .i64 d3.sc.d) (.int .i64 d3.sc.k)) (fun hm=>by have:=HSZ.out;simp at hm;omega)).drew;rw[←hu]at hq ht
 have hfin:Below w.heap.size w u4'∧OwnD w.heap.size u4' v5 d3:=by
  rw[hu];have hsz:=HSZ.out;have hT3:Touch [rb] wq _:=((Touch.set1 wq rb 0 (.int .i64 rn)).trans (Touch.set1 _ rb 1 (.int .i64 ii)) (fun x hx=> .inl hx)).trans (Touch.set1 _ rb 2 (.int .i64 k)) (fun x hx=> .inl hx);have hT9:=touch_set9 (((wq.setCell ⟨rb,0,none⟩ (.int .i64 rn)).setCell ⟨rb,1,none⟩ (.int .i64 ii)).setCell ⟨rb,2,none⟩ (.int .i64 k)) nb (.slice v5.A1 v5.n1 v5.c1) (.slice v5.A2 v5.n2 v5.c2) (.slice v5.A3 v5.n3 v5.c3) (.slice v5.A4 v5.n4 v5.c4) (.int .i64 d3.sc.a) (.int .i64 d3.sc.b) (.int .i64 d3.sc.c) (.int .i64 d3.sc.d) (.int .i64 d3.sc.k);have hlo:=HBW.out.trans (HLQ.out.mono HBW.out.size);have hl3:=hlo.trans (hT3.below hlo.size (fun x hx=>by simp at hx;omega));have hO:=HO9.out.2.touch hT3 (fun y hy hm=>by simp at hm;have h1:=(HO9.out.2.lt y hy).1;have h2:=HO9.out.1;omega)
  have hO':=hO.touch hT9 (fun y hy hm=>by simp at hm;have h1:=(HO9.out.2.lt y hy).1;have h2:=HO9.out.1;omega);exact⟨(hl3.trans (hT9.below hl3.size (fun x hx=>by simp at hx;omega))).drew,(hO'.touch ((Touch.refl [] _).drew) sI).mono (by have h2:=HO9.out.1;omega)⟩
 have HFIN:=Lib.hid hfin;have HQQ:=Lib.hid hq;have HTT:=Lib.hid ht;clear hu hs hq ht hfin;go_wp2_with fail
 have hq:=HQQ.out;have ht:=HTT.out;refine bodyPost_ret (v:= .tuple #[.agg #[.int .i64 rn, .int .i64 ii, .int .i64 k],diaV v5 d3.sc, .bool true]) (by simp[results,Tryz.results82,go_sem,ht.cell 0 _ rfl,ht.cell 1 _ rfl,ht.cell 2 _ rfl,hq.nine]) rfl ?_
 rw[HE5.out]
 exact⟨HFIN.out.1,v5,rfl,HFIN.out.2⟩):p:=h
theorem xe41_3 {p:Prop} (h:p:=by
 have he1:(e3==0)=false:=by simpa using he
 have HE5:Aside (d.next=(alt (d.tries (rn:Int) (ii+1) (mz-(ii+1))) (d.nextL (orderL.drop (kk+1))))):=by
  show _=_
  rw[HE4.out,if_neg he]
 clear HE4;go_wp2_with fail
 go_roundg (1-(k+1))
 case measure=>omega
 exact⟨k+1,oM,Nat.le_refl _,nX,(show Below _ _ _ from hO4.out.trans ((below_then HBU.out (HB5.out.trans (bR.alloc (by first|exact HB5.out.size|simp) _))).mono hO4.out.size)),(show _=_ from HE5.out.trans (by rw[show 1-(k+1)=0 by omega];rfl))⟩):p:=h
theorem xe41_4 {p:Prop} (h:p:=by
 have hltz3:¬(k:Int)<(1:Int):=oM
 have HE5:Aside (d.next=(alt (d.tries (rn:Int) (ii+1) (mz-(ii+1))) (d.nextL (orderL.drop (kk+1))))):=by
  show _=_
  rw[hE3.out,show 1-k=0 by omega];rfl
 go_wp2_with fail
 go_roundg (mz-(ii+1))
 case measure=>omega
 exact⟨ii+1,oM,Nat.le_refl _,nX,hO3.out,HE5⟩):p:=h
theorem next82 (v : DV) (d : Diag) (w:World) (hd:DRd w v d) (hI:d.Inv) (hG:Glob N w) (hN:N≤w.heap.size):
  Calls Tryz.prog 82 #[diaV v d.sc] w (RetN w.heap.size d.next w):=by
 obtain⟨W,hW⟩:∃W,W=((w.alloc (.cells #[.slice v.A1 v.n1 v.c1, .slice v.A2 v.n2 v.c2, .slice v.A3 v.n3 v.c3, .slice v.A4 v.n4 v.c4, .int .i64 d.sc.a, .int .i64 d.sc.b, .int .i64 d.sc.c, .int .i64 d.sc.d, .int .i64 d.sc.k] 28)).alloc (.cells #[.int .i64 0, .int .i64 0, .int .i64 0] 47)).alloc (.cells #[.slice none 0 0, .slice none 0 0, .slice none 0 0, .slice none 0 0, .int .i64 0, .int .i64 0, .int .i64 0, .int .i64 0, .int .i64 0] 28):=⟨_,rfl⟩;have hB1:Blk W w.heap.size [.slice v.A1 v.n1 v.c1, .slice v.A2 v.n2 v.c2, .slice v.A3 v.n3 v.c3, .slice v.A4 v.n4 v.c4, .int .i64 d.sc.a, .int .i64 d.sc.b, .int .i64 d.sc.c, .int .i64 d.sc.d, .int .i64 d.sc.k] 28:=by rw[hW];exact((Blk.new w _ 28).alloc _).alloc _
 have hB2:Blk W (w.heap.size+1) [.int .i64 0, .int .i64 0, .int .i64 0] 47:=by
  rw[hW];have h9:=(Blk.new (w.alloc (.cells #[.slice v.A1 v.n1 v.c1, .slice v.A2 v.n2 v.c2, .slice v.A3 v.n3 v.c3, .slice v.A4 v.n4 v.c4, .int .i64 d.sc.a, .int .i64 d.sc.b, .int .i64 d.sc.c, .int .i64 d.sc.d, .int .i64 d.sc.k] 28)) #[.int .i64 0, .int .i64 0, .int .i64 0] 47).alloc (.cells #[.slice none 0 0, .slice none 0 0, .slice none 0 0, .slice none 0 0, .int .i64 0, .int .i64 0, .int .i64 0, .int .i64 0, .int .i64 0] 28);simpa using h9
 have hB3:Blk W (w.heap.size+1+1) [.slice none 0 0, .slice none 0 0, .slice none 0 0, .slice none 0 0, .int .i64 0, .int .i64 0, .int .i64 0, .int .i64 0, .int .i64 0] 28:=by
  rw[hW];have h9:=Blk.new ((w.alloc (.cells #[.slice v.A1 v.n1 v.c1, .slice v.A2 v.n2 v.c2, .slice v.A3 v.n3 v.c3, .slice v.A4 v.n4 v.c4, .int .i64 d.sc.a, .int .i64 d.sc.b, .int .i64 d.sc.c, .int .i64 d.sc.d, .int .i64 d.sc.k] 28)).alloc (.cells #[.int .i64 0, .int .i64 0, .int .i64 0] 47)) #[.slice none 0 0, .slice none 0 0, .slice none 0 0, .slice none 0 0, .int .i64 0, .int .i64 0, .int .i64 0, .int .i64 0, .int .i64 0] 28;simpa using h9
 have hBW:Below w.heap.size w W:=by rw[hW];exact((bR.alloc (Nat.le_refl _) _).alloc sI _).alloc (by simp;omega) _
 have hsz:W.heap.size=w.heap.size+3:=by rw[hW];simp
 generalize hnb:w.heap.size+1+1=nb at hB3;generalize hrb:w.heap.size+1=rb at hB2 hnb;have hok:=hI.ok;have l1:=hd.sp.len;have l2:=hd.ln.len;have HB1:=Lib.hid hB1;have HB2:=Lib.hid hB2;have HB3:=Lib.hid hB3;have HBW:=Lib.hid hBW;have HSZ:Aside (W.heap.size=w.heap.size+3∧rb=w.heap.size+1∧nb=w.heap.size+2):=⟨hsz,hrb.symm,oM⟩;have HD:=Lib.hid (hd.below hBW);have HI:=Lib.hid hI;have HG:=Lib.hid (hG.below hBW hN);have HNN:Aside (N≤w.heap.size):=hN
 have HLN:Aside (d.sp.length=v.n1∧d.ln.length=v.n2∧v.n1≤40∧v.n2≤100):=by
  have h1:=hok.n1;have h2:=hok.n2;exact⟨l1,l2,oM,oM⟩
 have HW:=Lib.hid hW;have gord:=(hG.below hBW hN).order;have g0:=gord 0 _ rfl;have g1:=gord 1 _ rfl;have g2:=gord 2 _ rfl;have g3:=gord 3 _ rfl;have g4:=gord 4 _ rfl;have g5:=gord 5 _ rfl;have g6:=gord 6 _ rfl;have g7:=gord 7 _ rfl;clear hW hB1 hB2 hB3 hBW hsz hd hG hN hI hok l1 l2 gord;go_enter Tryz.func82,Tryz.ntmps82
 go_upto_region 1 with fail
 try rw[hrb]
 try rw[hnb]
 rw[←HW.out];clear hrb hnb;go_wp2_with fail
 clear g0 g1 g2 g3 g4 g5 g6 g7
 go_loopg [15] 8 (fun gg s15 wr=>∃kk:Nat,kk≤8∧8-kk≤gg∧s15= .int .i64 kk∧Aside (Below W.heap.size W wr)∧Aside (d.next=d.nextL (orderL.drop kk)))
 case atStart=>exact⟨0,Nat.zero_le _,oM,rfl,Below.refl _ _,rfl⟩
 obtain⟨kk,hkn,hgg,rfl,hO,hE⟩:=hrel
 by_cases hlt:kk<8
 · have hltz : (kk : Int) < 8 := oM
   obtain⟨r,hr⟩:=get_of (l:=orderL) (n:=kk) hlt;have hrr:=order_range (List.mem_of_getElem? hr);obtain⟨rn,rfl⟩:=Int.eq_ofNat_of_zero_le (a:=r) oM;have hi8:∀w,(Instr.index 88 (.agg #[.int .i64 2, .int .i64 3, .int .i64 1, .int .i64 5, .int .i64 6, .int .i64 4, .int .i64 7, .int .i64 8]) (.int .i64 kk)).run Tryz.prog w= .ok (.int .i64 (rn:Int)) w:=fun w=>idx88 (order_at hr) w;have HR:=Lib.hid hr;clear hr
   go_upto_region 4 with fail
   have hbr:=HB1.out.below hO.out;obtain⟨a0,a1,a2,a3,a4,a5,a6,a7,a8,af⟩:=hbr.nine;have HGr:Aside (Glob N wr):=HG.out.below hO.out (by have:=HNN.out;have:=HSZ.out;omega);obtain⟨F,f0,_,_,_⟩:=ruleF (rn:Int) oM oM;have q0:=HGr.out.rules _ _ f0;rw[Int.toNat_natCast]at q0;obtain⟨mz,hmz⟩:∃mz:Nat,mz=manyR d rn:=⟨_,rfl⟩
   have HMZ:Aside (mz=if lined (rn:Int)=true then v.n2 else v.n1):=by
    have h1:=HLN.out;show _=_
    rw[hmz];unfold manyR;rw[h1.1,h1.2.1]
   have hmz100:mz≤100:=by
    have h1:=HMZ.out;have h2:=HLN.out;rw[h1]
    split<;>omega
   have HT:Aside (d.next=(alt (d.tries (rn:Int) 0 mz) (d.nextL (orderL.drop (kk+1))))):=by
    show _=_
    rw[hE.out,nextL_alt HR.out,←hmz]
   clear hbr f0 hmz
   go_step3
   go_upto_if 24 with fail
   go_cut [7] (fun s7 wx=>s7= .int .i64 mz∧wr=wx)
   case first=>
    have hmz':=HMZ.out;cases hL:lined (rn:Int)
    · rw[hL]at q0 hmz';simp only[Bool.false_eq_true,if_false]at hmz';subst hmz';go_wp2_with fail
      go_meet
      exact⟨rfl,rfl⟩
    rw[hL]at q0 hmz';simp only[if_true]at hmz';subst hmz';go_wp2_with fail
    go_meet
    exact⟨rfl,rfl⟩
   obtain⟨rfl,rfl⟩:=hcut;clear a0 a1 a2 a3 a4 a5 a6 a7 a8 af q0;go_wp2_with fail
   go_step3
   go_wp2_with fail
   go_loopg [29] mz (fun gg s29 wy=>∃ii:Nat,ii≤mz∧mz-ii≤gg∧s29= .int .i64 ii∧Aside (Below W.heap.size W wy)∧Aside (d.next=(alt (d.tries (rn:Int) ii (mz-ii)) (d.nextL (orderL.drop (kk+1))))))
   case atStart=>exact⟨0,Nat.zero_le _,oM,rfl,hO.out,HT.out⟩
   obtain⟨ii,hin,hgg2,rfl,hO2,hE2⟩:=hrel
   by_cases hlt2:ii<mz
   · have hltz2 : (ii : Int) < (mz :Int):=oM
     have hm2:=HMZ.out
     by_cases hn2:(rn:Int)=2
     · rw [hn2, if_neg dE] at hm2; have hn5:¬(rn:Int)=5:=oM
       have h2e:((rn:Int)==2)=true:=by simpa using hn2
       have h5e:((rn:Int)==5)=false:=by simpa using hn5
       have HN2:=Lib.hid hn2;have hm2a:mz≤v.n1:=oM
       have hm2b:v.n1≤mz:=oM
       clear hn2 hm2
       by_cases hkd:d.kindAt ii=2
       · have HE3:Aside (d.next=(alt (d.try1 (rn:Int) ii 0 1) (alt (d.tries (rn:Int) (ii+1) (mz-(ii+1))) (d.nextL (orderL.drop (kk+1)))))):=by
          show _=_
          rw[hE2.out,tries_alt hlt2,if_neg (fun h=>h.2 hkd),if_neg hn5,alt_assoc]
         go_wp2_with fail
         go_loopg [36] 1 (fun gg s36 wy=>∃k:Nat,k≤1∧1-k≤gg∧s36= .int .i64 k∧Aside (Below W.heap.size W wy)∧Aside (d.next=(alt (d.try1 (rn:Int) ii k (1-k)) (alt (d.tries (rn:Int) (ii+1) (mz-(ii+1))) (d.nextL (orderL.drop (kk+1)))))))
         case atStart=>exact⟨0,Nat.zero_le _,oM,rfl,hO2.out,HE3.out⟩
         obtain⟨k,hkL,hgg3,rfl,hO3,hE3⟩:=hrel
         by_cases hlt3:k<1
         · have hltz3:(k:Int)<(1:Int):=oM
           have hbr3:=HB1.out.below hO3.out;obtain⟨a0,a1,a2,a3,a4,a5,a6,a7,a8,af⟩:=hbr3.nine;clear hbr3
           have hE4:Aside (d.next=(if (d.step ⟨(rn:Int),(ii:Int),(k:Int)⟩).2=0 then some (⟨(rn:Int),(ii:Int),(k:Int)⟩,(d.step ⟨(rn:Int),(ii:Int),(k:Int)⟩).1) else(alt (d.tries (rn:Int) (ii+1) (mz-(ii+1))) (d.nextL (orderL.drop (kk+1)))))):=by
            show _=_
            rw[hE3.out,try1_at hlt3,if_neg (fun h=>hn5 h.1)]
            by_cases h9:(d.step ⟨(rn:Int),(ii:Int),(k:Int)⟩).2=0
            · rw[if_pos h9,if_pos h9];rfl
            rw[if_neg h9,if_neg h9,show 1-(k+1)=0 by omega];rfl
           obtain⟨sA,hsA⟩:=get_of (l:=d.sp) (n:=ii) (by rw[HLN.out.1];omega);obtain⟨b4,q4,hA4,_,k0,k1⟩:=(HD.out.sp.below hO3.out).at2 hsA rfl
           have hk2:sA.kind=2:=by
            have h9:=hkd;simp only[Diag.kindAt,Int.toNat_natCast,hsA]at h9;exact h9
           rw[hk2]at k0;rw[hA4]at a0;clear hsA hk2 hA4
           go_upto_region 17 with fail
           go_quiet (fail)
           obtain⟨wd,hwd⟩:∃wd,wd=wr.drewN nq:=⟨_,rfl⟩;rw[←hwd];have hO4:Aside (Below W.heap.size W wd):=by rw[hwd];exact hO3.out.trans ((below_dN bR _).mono hO3.out.size)
           clear hwd;have hbu:Below wd.heap.size wd (wd.alloc (.cells #[.int .i64 rn, .int .i64 ii, .int .i64 k] 47)):=bR.alloc (Nat.le_refl _) _;have HBU:=Lib.hid hbu;have hnew:Blk (wd.alloc (.cells #[.int .i64 rn, .int .i64 ii, .int .i64 k] 47)) wd.heap.size [.int .i64 rn, .int .i64 ii, .int .i64 k] 47:=Blk.new _ _ _;have HNEW:=Lib.hid hnew;have p_c:=((HB1.out.below hO4.out).below hbu).nine;have H78:=step78 (N:=N) v d (wd.alloc (.cells #[.int .i64 rn, .int .i64 ii, .int .i64 k] 47)) ((HD.out.below hO4.out).below hbu) HI.out ((HG.out.below hO4.out (by have:=HNN.out;have:=HSZ.out;omega)).below hbu (by have:=HNN.out;have:=HSZ.out;have:=hO4.out.size;omega)) (by have:=HNN.out;have:=HSZ.out;have:=hO4.out.size;have:=hbu.size;omega) rn ii k;have HEQ:∃st,st=(d.step ⟨(rn:Int),(ii:Int),(k:Int)⟩):=⟨_,rfl⟩
           obtain⟨st,hst⟩:=HEQ;rw[←hst]at H78;have hE4':=hE4.out;rw[←hst]at hE4';obtain⟨d3,e3⟩:=st;dsimp only at hE4';have HE4:=Lib.hid hE4';clear hbu hnew hst hE4 hE4'
           go_upto_region 20 with (go_at_call 78;(with_reducible refine H78.mono ?_);rintro e w5 ⟨v5,rfl,hO5,hb5⟩;clear H78
                                   have hr5:=HNEW.out.below hb5;have s0:=hr5.cell 0 _ rfl;have s1:=hr5.cell 1 _ rfl;have s2:=hr5.cell 2 _ rfl;have HO5:=Lib.hid hO5;have HB5:=Lib.hid hb5;have HR5:=Lib.hid hr5
                                   clear hO5 hb5 hr5)
           clear a0 a1 a2 a3 a4 a5 a6 a7 a8 af p_c
           by_cases he:e3=0
           · subst he
             have HE5:Aside (d.next=some (⟨(rn:Int),(ii:Int),(k:Int)⟩,d3)):=by
              show _=_
              rw[HE4.out,if_pos rfl]
             clear HE4;obtain⟨wq,hwq⟩:∃wq,wq=w5.alloc (.cells #[.slice v5.A1 v5.n1 v5.c1, .slice v5.A2 v5.n2 v5.c2, .slice v5.A3 v5.n3 v5.c3, .slice v5.A4 v5.n4 v5.c4, .int .i64 d3.sc.a, .int .i64 d3.sc.b, .int .i64 d3.sc.c, .int .i64 d3.sc.d, .int .i64 d3.sc.k] 28):=⟨_,rfl⟩;have hbq:Below w5.heap.size w5 wq:=by rw[hwq];exact bR.alloc (Nat.le_refl _) _
             have hnq:Blk wq w5.heap.size [.slice v5.A1 v5.n1 v5.c1, .slice v5.A2 v5.n2 v5.c2, .slice v5.A3 v5.n3 v5.c3, .slice v5.A4 v5.n4 v5.c4, .int .i64 d3.sc.a, .int .i64 d3.sc.b, .int .i64 d3.sc.c, .int .i64 d3.sc.d, .int .i64 d3.sc.k] 28:=by rw[hwq];exact Blk.new _ _ _
             go_upto_region 21 with fail
             rw[←hwq];have hlow:Below W.heap.size W wq:=hO4.out.trans ((below_then HBU.out (HB5.out.trans (hbq.mono HB5.out.size))).mono hO4.out.size);have y2:=HB2.out.below hlow;have y3:=HB3.out.below hlow;have hne:rb≠nb:=by have:=HSZ.out;omega
             have hne2:rb≠w5.heap.size:=by have h1:=HSZ.out;have h2:=hO4.out.size;have h3:=HBU.out.size;have h4:=HB5.out.size;omega
             have y4:=((y3.set_other ⟨rb,0,none⟩ (.int .i64 rn) hne).set_other ⟨rb,1,none⟩ (.int .i64 ii) hne).set_other ⟨rb,2,none⟩ (.int .i64 k) hne;have y5:=((hnq.set_other ⟨rb,0,none⟩ (.int .i64 rn) hne2).set_other ⟨rb,1,none⟩ (.int .i64 ii) hne2).set_other ⟨rb,2,none⟩ (.int .i64 k) hne2;have HY2:=Lib.hid y2;have HY4:=Lib.hid y4;have HLQ:=Lib.hid hlow;have HO9:Aside (W.heap.size≤(wd.alloc (.cells #[.int .i64 rn, .int .i64 ii, .int .i64 k] 47)).heap.size∧OwnD (wd.alloc (.cells #[.int .i64 rn, .int .i64 ii, .int .i64 k] 47)).heap.size wq v5 d3):=⟨Nat.le_trans hO4.out.size HBU.out.size,HO5.out.touch (Touch.of_below hbq) sI⟩;have z47:=HR5.out.below hbq;have hne3:rb≠wd.heap.size:=by have h1:=HSZ.out;have h2:=hO4.out.size;omega
             have z48:=((z47.set_other ⟨rb,0,none⟩ (.int .i64 rn) hne3).set_other ⟨rb,1,none⟩ (.int .i64 ii) hne3).set_other ⟨rb,2,none⟩ (.int .i64 k) hne3;have HN0:=Lib.hid hnq.drew;have HN1:Aside (Blk (((wq.setCell ⟨rb,0,none⟩ (.int .i64 rn)).setCell ⟨rb,1,none⟩ (.int .i64 ii)).setCell ⟨rb,2,none⟩ (.int .i64 k)).drew w5.heap.size _ 28):=y5.drew;have HM0:=Lib.hid z47.drew;have HM1:Aside (Blk (((wq.setCell ⟨rb,0,none⟩ (.int .i64 rn)).setCell ⟨rb,1,none⟩ (.int .i64 ii)).setCell ⟨rb,2,none⟩ (.int .i64 k)).drew wd.heap.size _ 47):=z48.drew;clear s0 s1 s2 hwq hbq hnq y2 y3 y4 y5 hne hne2 hne3 hlow z47 z48
             refine wp_region_F [(4,1),(85,2)] (fun l u=>(l 2=false→u=wq.drew)∧(l 2=true→l 3=false→u=(((wq.setCell ⟨rb,0,none⟩ (.int .i64 rn)).setCell ⟨rb,1,none⟩ (.int .i64 ii)).setCell ⟨rb,2,none⟩ (.int .i64 k)).drew)∧(l 3=true→u=(set9 (((wq.setCell ⟨rb,0,none⟩ (.int .i64 rn)).setCell ⟨rb,1,none⟩ (.int .i64 ii)).setCell ⟨rb,2,none⟩ (.int .i64 k)) nb (.slice v5.A1 v5.n1 v5.c1) (.slice v5.A2 v5.n2 v5.c2) (.slice v5.A3 v5.n3 v5.c3) (.slice v5.A4 v5.n4 v5.c4) (.int .i64 d3.sc.a) (.int .i64 d3.sc.b) (.int .i64 d3.sc.c) (.int .i64 d3.sc.d) (.int .i64 d3.sc.k)).drew)) (fun i u u'=>True) (fun j x u=>match j with|0=>x 85= .agg #[.int .i64 rn, .int .i64 ii, .int .i64 k]|1=>x 86= .agg #[.slice v5.A1 v5.n1 v5.c1, .slice v5.A2 v5.n2 v5.c2, .slice v5.A3 v5.n3 v5.c3, .slice v5.A4 v5.n4 v5.c4, .int .i64 d3.sc.a, .int .i64 d3.sc.b, .int .i64 d3.sc.c, .int .i64 d3.sc.d, .int .i64 d3.sc.k]|2=>True|3=>True|4=>x 4= .bool true|_=>True) ?h0 ?hkeep ?hstep ?d0
             case h0=>exact⟨(fun _=>rfl),(fun h _=>by cases h),(fun h=>by cases h)⟩
             case hkeep=>
              intro j i x l u u' hj hi hpre ht hG hR;exact ht
             case hstep=>
              exact xe41_0
             exact xe41_1
           exact xe41_3
         exact xe41_4
       have HE5:Aside (d.next=(alt (d.tries (rn:Int) (ii+1) (mz-(ii+1))) (d.nextL (orderL.drop (kk+1))))):=by
        show _=_
        rw[hE2.out,tries_alt hlt2,if_pos ⟨HN2.out,hkd⟩]
       obtain⟨sA,hsA⟩:=get_of (l:=d.sp) (n:=ii) (by rw[HLN.out.1];omega);obtain⟨b4,q4,hA4,_,k0,k1⟩:=(HD.out.sp.below hO2.out).at2 hsA rfl
       have hk2:(sA.kind != 2)=true:=by
        have h9:=hkd;simp only[Diag.kindAt,Int.toNat_natCast,hsA]at h9;simpa using h9
       have hbr3:=HB1.out.below hO2.out;obtain⟨a0,a1,a2,a3,a4,a5,a6,a7,a8,af⟩:=hbr3.nine;rw[hA4]at a0;generalize sA.kind=kA at *;clear hsA hA4 hbr3 hkd;go_wp2_with fail
       refine wp_loop_rounds 1 ?_
       rw[rounds_succ];go_wp2_with fail
       go_roundg (mz-(ii+1))
       case measure=>omega
       exact⟨ii+1,oM,Nat.le_refl _,nX,hO2.out,HE5⟩
     by_cases hn5:(rn:Int)=5
     · rw [hn5,if_pos dE]at hm2;have HLNM:Aside (d.ln.length=mz):=by show _=_;rw[HLN.out.2.1,hm2]
       have h2e:((rn:Int)==2)=false:=by simpa using hn2
       have h5e:((rn:Int)==5)=true:=by simpa using hn5
       have HN5:=Lib.hid hn5;have hm2a:mz≤v.n2:=oM
       have hm2b:v.n2≤mz:=oM
       clear hn5 hm2
       have HE3:Aside (d.next=(alt (d.try1 (rn:Int) ii 0 mz) (alt (d.tries (rn:Int) (ii+1) (mz-(ii+1))) (d.nextL (orderL.drop (kk+1)))))):=by
        show _=_
        rw[hE2.out,tries_alt hlt2,if_neg (fun h=>hn2 h.1),if_pos HN5.out,HLNM.out,alt_assoc]
       go_wp2_with fail
       go_loopg [36] mz (fun gg s36 wy=>∃k:Nat,k≤mz∧mz-k≤gg∧s36= .int .i64 k∧Aside (Below W.heap.size W wy)∧Aside (d.next=(alt (d.try1 (rn:Int) ii k (mz-k)) (alt (d.tries (rn:Int) (ii+1) (mz-(ii+1))) (d.nextL (orderL.drop (kk+1)))))))
       case atStart=>exact⟨0,Nat.zero_le _,oM,rfl,hO2.out,HE3.out⟩
       obtain⟨k,hkL,hgg3,rfl,hO3,hE3⟩:=hrel
       by_cases hlt3:k<mz
       · have hltz3:(k:Int)<(mz:Int):=oM
         have hbr3:=HB1.out.below hO3.out;obtain⟨a0,a1,a2,a3,a4,a5,a6,a7,a8,af⟩:=hbr3.nine;clear hbr3
         by_cases hki:k≤ii
         · have HE5:Aside (d.next=(alt (d.try1 (rn:Int) ii (k+1) (mz-(k+1))) (alt (d.tries (rn:Int) (ii+1) (mz-(ii+1))) (d.nextL (orderL.drop (kk+1)))))):=by
            show _=_
            rw[hE3.out,try1_at hlt3,if_pos ⟨HN5.out, .inl hki⟩]
           have hkz:(k:Int)≤(ii:Int):=oM
           go_upto_region 17 with fail
           go_quiet (fail)
           go_wp2_with fail
           go_roundg (mz-(k+1))
           case measure=>omega
           exact⟨k+1,oM,Nat.le_refl _,nX,(show Below _ _ _ from hO3.out.trans ((below_dN bR _).mono hO3.out.size)),HE5⟩
         have hkz:¬(k:Int)≤(ii:Int):=oM
         obtain⟨la,hla⟩:=get_of (l:=d.ln) (n:=ii) (by rw[HLN.out.2.1];omega);obtain⟨lb,hlb⟩:=get_of (l:=d.ln) (n:=k) (by rw[HLN.out.2.1];omega);obtain⟨xaf,xat,xah⟩:=la;obtain⟨xbf,xbt,xbh⟩:=lb;obtain⟨g5,o5,hA5,_,_,_,_⟩:=(HD.out.ln.below hO3.out).at3 hla rfl;have hAL:∃al,al=(decide (min xaf xat=min xbf xbt)&&decide (max xaf xat=max xbf xbt)):=⟨_,rfl⟩;obtain⟨al,hal⟩:=hAL
         have H127:Aside (∀u:World,Calls Tryz.prog 127 #[.agg #[.int .i64 xaf, .int .i64 xat, .bool xah], .agg #[.int .i64 xbf, .int .i64 xbt, .bool xbh]] u fun e w'=>e= .returned (.bool al)∧Below u.heap.size u w'):=by
          intro u;rw[hal];exact alike127 xaf xat xbf xbt xah xbh u
         have HAL:Aside ((match d.ln[ii]?,d.ln[k]? with|some a,some b=>a.alike b|_,_=>false)=al):=by
          show _=_
          rw[hla,hlb,hal];rfl
         have hB1w:=HB1.out.below hO3.out
         have HS17:Aside (∀u,Below wr.heap.size wr u→u.cell? ⟨w.heap.size,1,none⟩=some (.slice (some ⟨g5,o5,none⟩) v.n2 v.c2)∧(u.cell? ⟨g5,o5+ii*3,none⟩=some (.int .i64 xaf)∧u.cell? ⟨g5,o5+ii*3+1,none⟩=some (.int .i64 xat)∧u.cell? ⟨g5,o5+ii*3+2,none⟩=some (.bool xah))∧u.cell? ⟨g5,o5+k*3,none⟩=some (.int .i64 xbf)∧u.cell? ⟨g5,o5+k*3+1,none⟩=some (.int .i64 xbt)∧u.cell? ⟨g5,o5+k*3+2,none⟩=some (.bool xbh)):=by
          intro u hu;have h1:=(hB1w.below hu).cell 1 _ rfl;rw[hA5]at h1;have hD9:=(HD.out.ln.below hO3.out).below hu;obtain⟨g6,o6,hA6,_,m0,m1,m2⟩:=hD9.at3 hla rfl;obtain⟨g7,o7,hA7,_,n0,n1,n2⟩:=hD9.at3 hlb rfl;rw[hA5]at hA6 hA7;simp only[Option.some.injEq,Addr.mk.injEq,and_true]at hA6 hA7;obtain⟨rfl,rfl⟩:=hA6;obtain⟨rfl,rfl⟩:=hA7;exact⟨h1,⟨m0,m1,m2⟩,n0,n1,n2⟩
         have hix:(ii:Int)<(v.n2:Int):=oM
         have hkx:(k:Int)<(v.n2:Int):=oM
         clear hla hlb hA5 hal hB1w a0 a1 a2 a3 a4 a5 a6 a7 a8 af
         go_upto_region 17 with fail
         refine wp_region_FG [(51,22)] (fun l u=>Below wr.heap.size wr u) (fun i u u'=>Below u.heap.size u u') (fun j x u=>match j with|0=>x 52= .int .i64 (rn:Int)|1=>x 53= .bool true|2=>x 54= .bool true|3=>x 55= .int .i64 (k:Int)|4=>x 56= .int .i64 (ii:Int)|5=>x 57= .bool false|6=>x 58= .bool false|7=>x 59= .pointer (some ⟨w.heap.size,1,none⟩)|8=>x 60= .slice (some ⟨g5,o5,none⟩) v.n2 v.c2|9=>x 61= .int .i64 (ii:Int)|10=>x 62= .pointer (some ⟨g5,o5+ii*3,none⟩)|11=>x 63= .agg #[.int .i64 xaf, .int .i64 xat, .bool xah]|12=>x 64= .pointer (some ⟨w.heap.size,1,none⟩)|13=>x 65= .slice (some ⟨g5,o5,none⟩) v.n2 v.c2|14=>x 66= .int .i64 (k:Int)|15=>x 67= .pointer (some ⟨g5,o5+k*3,none⟩)|16=>x 68= .agg #[.int .i64 xbf, .int .i64 xbt, .bool xbh]|17=>x 69= .bool al|18=>x 70= .bool (!al)|19=>x 71= .bool (!al)|20=>x 72= .bool (!al)|21=>x 51= .bool (!al)|_=>True) ?h0 ?hkeep ?hstep ?d1
         case h0=>exact bR.drew
         case hkeep=>
          intro j i x l u u' hj hi hpre ht hG hR;exact ht
         case hstep=>
          dsimp only[fil,fls,fl,List.toList_toArray,Nat.reduceAdd];refine⟨?_,?_,?_,?c3,?c4,?c5,?c6,?c7,?c8,?c9,?c10,?c11,?c12,?c13,?c14,?c15,?c16,?c17,?c18,?c19,?_,?_,trivial⟩
          all_goals intro l x u hG hno hli hpre hd K hK
          case c3|c4=>
           have e2:x 54= .bool true:=hd ⟨2, .guard⟩ sI rfl;clear hd;refine ite_on (gcond_on rfl kR e2) ?_
           simp only[e2]at hK ⊢;go_simp
           exact hK _ _ rfl bR hG
          case c5=>
           have e3:x 55= .int .i64 (k:Int):=hd ⟨3, .data⟩ sI rfl;have e4:x 56= .int .i64 (ii:Int):=hd ⟨4, .data⟩ sI rfl;have e2:x 54= .bool true:=hd ⟨2, .guard⟩ sI rfl;clear hd;refine ite_on (gcond_on rfl kR e2) ?_
           simp only[e3,e4,e2]at hK ⊢;go_simp
           exact hK _ _ rfl bR hG
          case c6=>
           have e5:x 57= .bool false:=hd ⟨5, .data⟩ sI rfl;have e2:x 54= .bool true:=hd ⟨2, .chain⟩ sI rfl;clear hd;refine ite_on (gcond_on rfl kR e2) ?_
           simp only[e5,e2]at hK ⊢;go_simp
           exact hK _ _ rfl bR hG
          case c7|c9|c12|c14=>
           have e6:x 58= .bool false:=hd ⟨6, .guard⟩ sI rfl;clear hd;refine ite_on (gcond_on rfl kR e6) ?_
           simp only[e6]at hK ⊢;go_simp
           exact hK _ _ rfl bR hG
          case c8=>
           have e7:x 59= .pointer (some ⟨w.heap.size,1,none⟩):=hd ⟨7, .data⟩ sI rfl;have e6:x 58= .bool false:=hd ⟨6, .guard⟩ sI rfl;clear hd;refine ite_on (gcond_on rfl kR e6) ?_
           simp only[e7,e6]at hK ⊢;obtain⟨s1,⟨m0,m1,m2⟩,n0,n1,n2⟩:=HS17.out u hG;go_simp
           exact hK _ _ rfl bR hG
          case c10=>
           have e8:x 60= .slice (some ⟨g5,o5,none⟩) v.n2 v.c2:=hd ⟨8, .data⟩ sI rfl;have e9:x 61= .int .i64 (ii:Int):=hd ⟨9, .data⟩ sI rfl;have e6:x 58= .bool false:=hd ⟨6, .guard⟩ sI rfl;clear hd;refine ite_on (gcond_on rfl kR e6) ?_
           simp only[e8,e9,e6]at hK ⊢;go_simp
           exact hK _ _ rfl bR hG
          case c11=>
           have e10:x 62= .pointer (some ⟨g5,o5+ii*3,none⟩):=hd ⟨10, .data⟩ sI rfl;have e6:x 58= .bool false:=hd ⟨6, .guard⟩ sI rfl;clear hd;refine ite_on (gcond_on rfl kR e6) ?_
           simp only[e10,e6]at hK ⊢;obtain⟨s1,⟨m0,m1,m2⟩,n0,n1,n2⟩:=HS17.out u hG;go_simp
           exact hK _ _ rfl bR hG
          case c13=>
           have e12:x 64= .pointer (some ⟨w.heap.size,1,none⟩):=hd ⟨12, .data⟩ sI rfl;have e6:x 58= .bool false:=hd ⟨6, .guard⟩ sI rfl;clear hd;refine ite_on (gcond_on rfl kR e6) ?_
           simp only[e12,e6]at hK ⊢;obtain⟨s1,⟨m0,m1,m2⟩,n0,n1,n2⟩:=HS17.out u hG;go_simp
           exact hK _ _ rfl bR hG
          case c15=>
           have e13:x 65= .slice (some ⟨g5,o5,none⟩) v.n2 v.c2:=hd ⟨13, .data⟩ sI rfl;have e14:x 66= .int .i64 (k:Int):=hd ⟨14, .data⟩ sI rfl;have e6:x 58= .bool false:=hd ⟨6, .guard⟩ sI rfl;clear hd;refine ite_on (gcond_on rfl kR e6) ?_
           simp only[e13,e14,e6]at hK ⊢;go_simp
           exact hK _ _ rfl bR hG
          case c16=>
           have e15:x 67= .pointer (some ⟨g5,o5+k*3,none⟩):=hd ⟨15, .data⟩ sI rfl;have e6:x 58= .bool false:=hd ⟨6, .guard⟩ sI rfl;clear hd;refine ite_on (gcond_on rfl kR e6) ?_
           simp only[e15,e6]at hK ⊢;obtain⟨s1,⟨m0,m1,m2⟩,n0,n1,n2⟩:=HS17.out u hG;go_simp
           exact hK _ _ rfl bR hG
          case c17=>
           have e11:x 63= .agg #[.int .i64 xaf, .int .i64 xat, .bool xah]:=hd ⟨11, .data⟩ sI rfl;have e16:x 68= .agg #[.int .i64 xbf, .int .i64 xbt, .bool xbh]:=hd ⟨16, .data⟩ sI rfl;have e6:x 58= .bool false:=hd ⟨6, .chain⟩ sI rfl;clear hd;refine ite_on (gcond_on rfl kR e6) ?_
           simp only[e11,e16,e6]at hK ⊢;go_simp
           (with_reducible refine(H127.out u).mono ?_);rintro e u2 ⟨rfl,hb⟩
           exact hK _ _ rfl hb (below_then hG hb)
          case c18=>
           have e17:x 69= .bool al:=hd ⟨17, .data⟩ sI rfl;have e6:x 58= .bool false:=hd ⟨6, .guard⟩ sI rfl;clear hd;refine ite_on (gcond_on rfl kR e6) ?_
           simp only[e17,e6]at hK ⊢;go_simp
           exact hK _ _ rfl bR hG
          case c19=>
           have e6:x 58= .bool false:=hd ⟨6, .data⟩ sI rfl;have e18:x 70= .bool (!al):=hd ⟨18, .data⟩ sI rfl;have e2:x 54= .bool true:=hd ⟨2, .guard⟩ sI rfl;clear hd;refine ite_on (gcond_on rfl kR e2) ?_
           simp only[e6,e18,e2]at hK ⊢;go_simp
           exact hK _ _ rfl bR hG
          all_goals
           dsimp only at hd;simp only[eB]at hd
           try simp only[hd]at hK ⊢
           refine ite_on (gcond_none rfl) ?_
           go_simp
           exact hK _ _ rfl bR hG
         dsimp only[fil,fls,fl,List.toList_toArray,Nat.reduceAdd];rintro l_17 x17 wd hall hG ⟨-,-,-,-,-,-,-,-,-,-,-,-,-,-,-,-,-,-,-,-,-,e51,-⟩;have hO4:Aside (Below W.heap.size W wd):=hO3.out.trans (hG.mono hO3.out.size);clear hall hG;generalize x17 51=z51 at e51 ⊢;subst e51;cases al
         · have HE5:Aside (d.next=(alt (d.try1 (rn:Int) ii (k+1) (mz-(k+1))) (alt (d.tries (rn:Int) (ii+1) (mz-(ii+1))) (d.nextL (orderL.drop (kk+1)))))):=by
            show _=_
            rw[hE3.out,try1_at hlt3,if_pos ⟨HN5.out, .inr HAL.out⟩]
           go_wp2_with fail
           go_roundg (mz-(k+1))
           case measure=>omega
           exact⟨k+1,oM,Nat.le_refl _,nX,hO4.out,HE5⟩
         have hE4:Aside (d.next=(if (d.step ⟨(rn:Int),(ii:Int),(k:Int)⟩).2=0 then some (⟨(rn:Int),(ii:Int),(k:Int)⟩,(d.step ⟨(rn:Int),(ii:Int),(k:Int)⟩).1) else(alt (d.try1 (rn:Int) ii (k+1) (mz-(k+1))) (alt (d.tries (rn:Int) (ii+1) (mz-(ii+1))) (d.nextL (orderL.drop (kk+1))))))):=by
          show _=_
          rw[hE3.out,try1_at hlt3,if_neg (fun h=>by rcases h.2 with h9|h9;(omega);exact absurd (HAL.out.symm.trans h9) dE)]
          by_cases h9:(d.step ⟨(rn:Int),(ii:Int),(k:Int)⟩).2=0
          · rw[if_pos h9,if_pos h9];rfl
          rw[if_neg h9,if_neg h9]
         have hbu:Below wd.heap.size wd (wd.alloc (.cells #[.int .i64 rn, .int .i64 ii, .int .i64 k] 47)):=bR.alloc (Nat.le_refl _) _;have HBU:=Lib.hid hbu;have hnew:Blk (wd.alloc (.cells #[.int .i64 rn, .int .i64 ii, .int .i64 k] 47)) wd.heap.size [.int .i64 rn, .int .i64 ii, .int .i64 k] 47:=Blk.new _ _ _;have HNEW:=Lib.hid hnew;have p_c:=((HB1.out.below hO4.out).below hbu).nine;have H78:=step78 (N:=N) v d (wd.alloc (.cells #[.int .i64 rn, .int .i64 ii, .int .i64 k] 47)) ((HD.out.below hO4.out).below hbu) HI.out ((HG.out.below hO4.out (by have:=HNN.out;have:=HSZ.out;omega)).below hbu (by have:=HNN.out;have:=HSZ.out;have:=hO4.out.size;omega)) (by have:=HNN.out;have:=HSZ.out;have:=hO4.out.size;have:=hbu.size;omega) rn ii k;have HEQ:∃st,st=(d.step ⟨(rn:Int),(ii:Int),(k:Int)⟩):=⟨_,rfl⟩;obtain⟨st,hst⟩:=HEQ
         rw[←hst]at H78;have hE4':=hE4.out;rw[←hst]at hE4';obtain⟨d3,e3⟩:=st;dsimp only at hE4';have HE4:=Lib.hid hE4';clear hbu hnew hst hE4 hE4'
         go_upto_region 20 with (go_at_call 78;(with_reducible refine H78.mono ?_);rintro e w5 ⟨v5,rfl,hO5,hb5⟩;clear H78
                                 have hr5:=HNEW.out.below hb5;have s0:=hr5.cell 0 _ rfl;have s1:=hr5.cell 1 _ rfl;have s2:=hr5.cell 2 _ rfl;have HO5:=Lib.hid hO5;have HB5:=Lib.hid hb5;have HR5:=Lib.hid hr5
                                 clear hO5 hb5 hr5)
         clear p_c
         by_cases he:e3=0
         · subst he
           have HE5:Aside (d.next=some (⟨(rn:Int),(ii:Int),(k:Int)⟩,d3)):=by
            show _=_
            rw[HE4.out,if_pos rfl]
           clear HE4;obtain⟨wq,hwq⟩:∃wq,wq=w5.alloc (.cells #[.slice v5.A1 v5.n1 v5.c1, .slice v5.A2 v5.n2 v5.c2, .slice v5.A3 v5.n3 v5.c3, .slice v5.A4 v5.n4 v5.c4, .int .i64 d3.sc.a, .int .i64 d3.sc.b, .int .i64 d3.sc.c, .int .i64 d3.sc.d, .int .i64 d3.sc.k] 28):=⟨_,rfl⟩;have hbq:Below w5.heap.size w5 wq:=by rw[hwq];exact bR.alloc (Nat.le_refl _) _
           have hnq:Blk wq w5.heap.size [.slice v5.A1 v5.n1 v5.c1, .slice v5.A2 v5.n2 v5.c2, .slice v5.A3 v5.n3 v5.c3, .slice v5.A4 v5.n4 v5.c4, .int .i64 d3.sc.a, .int .i64 d3.sc.b, .int .i64 d3.sc.c, .int .i64 d3.sc.d, .int .i64 d3.sc.k] 28:=by rw[hwq];exact Blk.new _ _ _
           go_upto_region 21 with fail
           rw[←hwq];have hlow:Below W.heap.size W wq:=hO4.out.trans ((below_then HBU.out (HB5.out.trans (hbq.mono HB5.out.size))).mono hO4.out.size);have y2:=HB2.out.below hlow;have y3:=HB3.out.below hlow;have hne:rb≠nb:=by have:=HSZ.out;omega
           have hne2:rb≠w5.heap.size:=by have h1:=HSZ.out;have h2:=hO4.out.size;have h3:=HBU.out.size;have h4:=HB5.out.size;omega
           have y4:=((y3.set_other ⟨rb,0,none⟩ (.int .i64 rn) hne).set_other ⟨rb,1,none⟩ (.int .i64 ii) hne).set_other ⟨rb,2,none⟩ (.int .i64 k) hne;have y5:=((hnq.set_other ⟨rb,0,none⟩ (.int .i64 rn) hne2).set_other ⟨rb,1,none⟩ (.int .i64 ii) hne2).set_other ⟨rb,2,none⟩ (.int .i64 k) hne2;have HY2:=Lib.hid y2;have HY4:=Lib.hid y4;have HLQ:=Lib.hid hlow;have HO9:Aside (W.heap.size≤(wd.alloc (.cells #[.int .i64 rn, .int .i64 ii, .int .i64 k] 47)).heap.size∧OwnD (wd.alloc (.cells #[.int .i64 rn, .int .i64 ii, .int .i64 k] 47)).heap.size wq v5 d3):=⟨Nat.le_trans hO4.out.size HBU.out.size,HO5.out.touch (Touch.of_below hbq) sI⟩;have z47:=HR5.out.below hbq;have hne3:rb≠wd.heap.size:=by have h1:=HSZ.out;have h2:=hO4.out.size;omega
           have z48:=((z47.set_other ⟨rb,0,none⟩ (.int .i64 rn) hne3).set_other ⟨rb,1,none⟩ (.int .i64 ii) hne3).set_other ⟨rb,2,none⟩ (.int .i64 k) hne3;have HN0:=Lib.hid hnq.drew;have HN1:Aside (Blk (((wq.setCell ⟨rb,0,none⟩ (.int .i64 rn)).setCell ⟨rb,1,none⟩ (.int .i64 ii)).setCell ⟨rb,2,none⟩ (.int .i64 k)).drew w5.heap.size _ 28):=y5.drew;have HM0:=Lib.hid z47.drew;have HM1:Aside (Blk (((wq.setCell ⟨rb,0,none⟩ (.int .i64 rn)).setCell ⟨rb,1,none⟩ (.int .i64 ii)).setCell ⟨rb,2,none⟩ (.int .i64 k)).drew wd.heap.size _ 47):=z48.drew;clear s0 s1 s2 hwq hbq hnq y2 y3 y4 y5 hne hne2 hne3 hlow z47 z48
           refine wp_region_F [(4,1),(85,2)] (fun l u=>(l 2=false→u=wq.drew)∧(l 2=true→l 3=false→u=(((wq.setCell ⟨rb,0,none⟩ (.int .i64 rn)).setCell ⟨rb,1,none⟩ (.int .i64 ii)).setCell ⟨rb,2,none⟩ (.int .i64 k)).drew)∧(l 3=true→u=(set9 (((wq.setCell ⟨rb,0,none⟩ (.int .i64 rn)).setCell ⟨rb,1,none⟩ (.int .i64 ii)).setCell ⟨rb,2,none⟩ (.int .i64 k)) nb (.slice v5.A1 v5.n1 v5.c1) (.slice v5.A2 v5.n2 v5.c2) (.slice v5.A3 v5.n3 v5.c3) (.slice v5.A4 v5.n4 v5.c4) (.int .i64 d3.sc.a) (.int .i64 d3.sc.b) (.int .i64 d3.sc.c) (.int .i64 d3.sc.d) (.int .i64 d3.sc.k)).drew)) (fun i u u'=>True) (fun j x u=>match j with|0=>x 85= .agg #[.int .i64 rn, .int .i64 ii, .int .i64 k]|1=>x 86= .agg #[.slice v5.A1 v5.n1 v5.c1, .slice v5.A2 v5.n2 v5.c2, .slice v5.A3 v5.n3 v5.c3, .slice v5.A4 v5.n4 v5.c4, .int .i64 d3.sc.a, .int .i64 d3.sc.b, .int .i64 d3.sc.c, .int .i64 d3.sc.d, .int .i64 d3.sc.k]|2=>True|3=>True|4=>x 4= .bool true|_=>True) ?h0 ?hkeep ?hstep ?d2
           case h0=>exact⟨(fun _=>rfl),(fun h _=>by cases h),(fun h=>by cases h)⟩
           case hkeep=>
            intro j i x l u u' hj hi hpre ht hG hR;exact ht
           case hstep=>
            exact xe41_0
           exact xe41_1
         have he1:(e3==0)=false:=by simpa using he
         have HE5:Aside (d.next=(alt (d.try1 (rn:Int) ii (k+1) (mz-(k+1))) (alt (d.tries (rn:Int) (ii+1) (mz-(ii+1))) (d.nextL (orderL.drop (kk+1)))))):=by
          show _=_
          rw[HE4.out,if_neg he]
         clear HE4;go_wp2_with fail
         go_roundg (mz-(k+1))
         case measure=>omega
         exact⟨k+1,oM,Nat.le_refl _,nX,(show Below _ _ _ from hO4.out.trans ((below_then HBU.out (HB5.out.trans (bR.alloc (by first|exact HB5.out.size|simp) _))).mono hO4.out.size)),HE5⟩
       have hltz3:¬(k:Int)<(mz:Int):=oM
       have HE5:Aside (d.next=(alt (d.tries (rn:Int) (ii+1) (mz-(ii+1))) (d.nextL (orderL.drop (kk+1))))):=by
        show _=_
        rw[hE3.out,show mz-k=0 by omega];rfl
       go_wp2_with fail
       go_roundg (mz-(ii+1))
       case measure=>omega
       exact⟨ii+1,oM,Nat.le_refl _,nX,hO3.out,HE5⟩
     have h2e:((rn:Int)==2)=false:=by simpa using hn2
     have h5e:((rn:Int)==5)=false:=by simpa using hn5
     clear hm2
     have HE3:Aside (d.next=(alt (d.try1 (rn:Int) ii 0 1) (alt (d.tries (rn:Int) (ii+1) (mz-(ii+1))) (d.nextL (orderL.drop (kk+1)))))):=by
      show _=_
      rw[hE2.out,tries_alt hlt2,if_neg (fun h=>hn2 h.1),if_neg hn5,alt_assoc]
     go_wp2_with fail
     go_loopg [36] 1 (fun gg s36 wy=>∃k:Nat,k≤1∧1-k≤gg∧s36= .int .i64 k∧Aside (Below W.heap.size W wy)∧Aside (d.next=(alt (d.try1 (rn:Int) ii k (1-k)) (alt (d.tries (rn:Int) (ii+1) (mz-(ii+1))) (d.nextL (orderL.drop (kk+1)))))))
     case atStart=>exact⟨0,Nat.zero_le _,oM,rfl,hO2.out,HE3.out⟩
     obtain⟨k,hkL,hgg3,rfl,hO3,hE3⟩:=hrel
     by_cases hlt3:k<1
     · have hltz3:(k:Int)<(1:Int):=oM
       have hbr3:=HB1.out.below hO3.out;obtain⟨a0,a1,a2,a3,a4,a5,a6,a7,a8,af⟩:=hbr3.nine;clear hbr3
       have hE4:Aside (d.next=(if (d.step ⟨(rn:Int),(ii:Int),(k:Int)⟩).2=0 then some (⟨(rn:Int),(ii:Int),(k:Int)⟩,(d.step ⟨(rn:Int),(ii:Int),(k:Int)⟩).1) else(alt (d.tries (rn:Int) (ii+1) (mz-(ii+1))) (d.nextL (orderL.drop (kk+1)))))):=by
        show _=_
        rw[hE3.out,try1_at hlt3,if_neg (fun h=>hn5 h.1)]
        by_cases h9:(d.step ⟨(rn:Int),(ii:Int),(k:Int)⟩).2=0
        · rw[if_pos h9,if_pos h9];rfl
        rw[if_neg h9,if_neg h9,show 1-(k+1)=0 by omega];rfl
       go_upto_region 17 with fail
       go_quiet (fail)
       obtain⟨wd,hwd⟩:∃wd,wd=wr.drewN nq:=⟨_,rfl⟩;rw[←hwd];have hO4:Aside (Below W.heap.size W wd):=by rw[hwd];exact hO3.out.trans ((below_dN bR _).mono hO3.out.size)
       clear hwd;have hbu:Below wd.heap.size wd (wd.alloc (.cells #[.int .i64 rn, .int .i64 ii, .int .i64 k] 47)):=bR.alloc (Nat.le_refl _) _;have HBU:=Lib.hid hbu;have hnew:Blk (wd.alloc (.cells #[.int .i64 rn, .int .i64 ii, .int .i64 k] 47)) wd.heap.size [.int .i64 rn, .int .i64 ii, .int .i64 k] 47:=Blk.new _ _ _;have HNEW:=Lib.hid hnew;have p_c:=((HB1.out.below hO4.out).below hbu).nine;have H78:=step78 (N:=N) v d (wd.alloc (.cells #[.int .i64 rn, .int .i64 ii, .int .i64 k] 47)) ((HD.out.below hO4.out).below hbu) HI.out ((HG.out.below hO4.out (by have:=HNN.out;have:=HSZ.out;omega)).below hbu (by have:=HNN.out;have:=HSZ.out;have:=hO4.out.size;omega)) (by have:=HNN.out;have:=HSZ.out;have:=hO4.out.size;have:=hbu.size;omega) rn ii k;have HEQ:∃st,st=(d.step ⟨(rn:Int),(ii:Int),(k:Int)⟩):=⟨_,rfl⟩
       obtain⟨st,hst⟩:=HEQ;rw[←hst]at H78;have hE4':=hE4.out;rw[←hst]at hE4';obtain⟨d3,e3⟩:=st;dsimp only at hE4';have HE4:=Lib.hid hE4';clear hbu hnew hst hE4 hE4'
       go_upto_region 20 with (go_at_call 78;(with_reducible refine H78.mono ?_);rintro e w5 ⟨v5,rfl,hO5,hb5⟩;clear H78
                               have hr5:=HNEW.out.below hb5;have s0:=hr5.cell 0 _ rfl;have s1:=hr5.cell 1 _ rfl;have s2:=hr5.cell 2 _ rfl;have HO5:=Lib.hid hO5;have HB5:=Lib.hid hb5;have HR5:=Lib.hid hr5
                               clear hO5 hb5 hr5)
       clear a0 a1 a2 a3 a4 a5 a6 a7 a8 af p_c
       by_cases he:e3=0
       · subst he
         have HE5:Aside (d.next=some (⟨(rn:Int),(ii:Int),(k:Int)⟩,d3)):=by
          show _=_
          rw[HE4.out,if_pos rfl]
         clear HE4;obtain⟨wq,hwq⟩:∃wq,wq=w5.alloc (.cells #[.slice v5.A1 v5.n1 v5.c1, .slice v5.A2 v5.n2 v5.c2, .slice v5.A3 v5.n3 v5.c3, .slice v5.A4 v5.n4 v5.c4, .int .i64 d3.sc.a, .int .i64 d3.sc.b, .int .i64 d3.sc.c, .int .i64 d3.sc.d, .int .i64 d3.sc.k] 28):=⟨_,rfl⟩;have hbq:Below w5.heap.size w5 wq:=by rw[hwq];exact bR.alloc (Nat.le_refl _) _
         have hnq:Blk wq w5.heap.size [.slice v5.A1 v5.n1 v5.c1, .slice v5.A2 v5.n2 v5.c2, .slice v5.A3 v5.n3 v5.c3, .slice v5.A4 v5.n4 v5.c4, .int .i64 d3.sc.a, .int .i64 d3.sc.b, .int .i64 d3.sc.c, .int .i64 d3.sc.d, .int .i64 d3.sc.k] 28:=by rw[hwq];exact Blk.new _ _ _
         go_upto_region 21 with fail
         rw[←hwq];have hlow:Below W.heap.size W wq:=hO4.out.trans ((below_then HBU.out (HB5.out.trans (hbq.mono HB5.out.size))).mono hO4.out.size);have y2:=HB2.out.below hlow;have y3:=HB3.out.below hlow;have hne:rb≠nb:=by have:=HSZ.out;omega
         have hne2:rb≠w5.heap.size:=by have h1:=HSZ.out;have h2:=hO4.out.size;have h3:=HBU.out.size;have h4:=HB5.out.size;omega
         have y4:=((y3.set_other ⟨rb,0,none⟩ (.int .i64 rn) hne).set_other ⟨rb,1,none⟩ (.int .i64 ii) hne).set_other ⟨rb,2,none⟩ (.int .i64 k) hne;have y5:=((hnq.set_other ⟨rb,0,none⟩ (.int .i64 rn) hne2).set_other ⟨rb,1,none⟩ (.int .i64 ii) hne2).set_other ⟨rb,2,none⟩ (.int .i64 k) hne2;have HY2:=Lib.hid y2;have HY4:=Lib.hid y4;have HLQ:=Lib.hid hlow;have HO9:Aside (W.heap.size≤(wd.alloc (.cells #[.int .i64 rn, .int .i64 ii, .int .i64 k] 47)).heap.size∧OwnD (wd.alloc (.cells #[.int .i64 rn, .int .i64 ii, .int .i64 k] 47)).heap.size wq v5 d3):=⟨Nat.le_trans hO4.out.size HBU.out.size,HO5.out.touch (Touch.of_below hbq) sI⟩;have z47:=HR5.out.below hbq;have hne3:rb≠wd.heap.size:=by have h1:=HSZ.out;have h2:=hO4.out.size;omega
         have z48:=((z47.set_other ⟨rb,0,none⟩ (.int .i64 rn) hne3).set_other ⟨rb,1,none⟩ (.int .i64 ii) hne3).set_other ⟨rb,2,none⟩ (.int .i64 k) hne3;have HN0:=Lib.hid hnq.drew;have HN1:Aside (Blk (((wq.setCell ⟨rb,0,none⟩ (.int .i64 rn)).setCell ⟨rb,1,none⟩ (.int .i64 ii)).setCell ⟨rb,2,none⟩ (.int .i64 k)).drew w5.heap.size _ 28):=y5.drew;have HM0:=Lib.hid z47.drew;have HM1:Aside (Blk (((wq.setCell ⟨rb,0,none⟩ (.int .i64 rn)).setCell ⟨rb,1,none⟩ (.int .i64 ii)).setCell ⟨rb,2,none⟩ (.int .i64 k)).drew wd.heap.size _ 47):=z48.drew;clear s0 s1 s2 hwq hbq hnq y2 y3 y4 y5 hne hne2 hne3 hlow z47 z48
         refine wp_region_F [(4,1),(85,2)] (fun l u=>(l 2=false→u=wq.drew)∧(l 2=true→l 3=false→u=(((wq.setCell ⟨rb,0,none⟩ (.int .i64 rn)).setCell ⟨rb,1,none⟩ (.int .i64 ii)).setCell ⟨rb,2,none⟩ (.int .i64 k)).drew)∧(l 3=true→u=(set9 (((wq.setCell ⟨rb,0,none⟩ (.int .i64 rn)).setCell ⟨rb,1,none⟩ (.int .i64 ii)).setCell ⟨rb,2,none⟩ (.int .i64 k)) nb (.slice v5.A1 v5.n1 v5.c1) (.slice v5.A2 v5.n2 v5.c2) (.slice v5.A3 v5.n3 v5.c3) (.slice v5.A4 v5.n4 v5.c4) (.int .i64 d3.sc.a) (.int .i64 d3.sc.b) (.int .i64 d3.sc.c) (.int .i64 d3.sc.d) (.int .i64 d3.sc.k)).drew)) (fun i u u'=>True) (fun j x u=>match j with|0=>x 85= .agg #[.int .i64 rn, .int .i64 ii, .int .i64 k]|1=>x 86= .agg #[.slice v5.A1 v5.n1 v5.c1, .slice v5.A2 v5.n2 v5.c2, .slice v5.A3 v5.n3 v5.c3, .slice v5.A4 v5.n4 v5.c4, .int .i64 d3.sc.a, .int .i64 d3.sc.b, .int .i64 d3.sc.c, .int .i64 d3.sc.d, .int .i64 d3.sc.k]|2=>True|3=>True|4=>x 4= .bool true|_=>True) ?h0 ?hkeep ?hstep ?d3
         case h0=>exact⟨(fun _=>rfl),(fun h _=>by cases h),(fun h=>by cases h)⟩
         case hkeep=>
          intro j i x l u u' hj hi hpre ht hG hR;exact ht
         case hstep=>
          exact xe41_0
         exact xe41_1
       exact xe41_3
     exact xe41_4
   have hltz2:¬(ii:Int)<(mz:Int):=oM
   have HE5:Aside (d.next=d.nextL (orderL.drop (kk+1))):=by
    show _=_
    rw[hE2.out,show mz-ii=0 by omega];rfl
   go_wp2_with fail
   go_roundg (8-(kk+1))
   case measure=>omega
   exact⟨kk+1,oM,Nat.le_refl _,nX,hO2.out,HE5⟩
 have hltz:¬(kk:Int)<8:=oM
 have hE0:Aside (d.next=none):=by
  show _=_
  rw[hE.out,List.drop_of_length_le (by show 8≤kk;omega)];rfl
 have hb2:=HB2.out.below hO.out;have hb3:=HB3.out.below hO.out;obtain⟨z0,z1,z2,z3,z4,z5,z6,z7,z8,zf⟩:=hb3.nine;have r0:=hb2.cell 0 _ rfl;have r1:=hb2.cell 1 _ rfl;have r2:=hb2.cell 2 _ rfl;have rf:=hb2.free;have HB2':=Lib.hid hb2;have HB3':=Lib.hid hb3;have hne:rb≠nb:=by have:=HSZ.out;omega
 have hb4:=((hb3.set_other ⟨rb,0,none⟩ (.int .i64 0) hne).set_other ⟨rb,1,none⟩ (.int .i64 0) hne).set_other ⟨rb,2,none⟩ (.int .i64 0) hne;obtain⟨y0,y1,y2,y3,y4,y5,y6,y7,y8,yf⟩:=hb4.nine;have HB4:=Lib.hid hb4;clear hb2 hb3 hb4 hne;go_wp2_with fail
 have hq:=HB4.out.set9 (.slice none 0 0) (.slice none 0 0) (.slice none 0 0) (.slice none 0 0) (.int .i64 0) (.int .i64 0) (.int .i64 0) (.int .i64 0) (.int .i64 0);have hs:=((HB2'.out.set 0 (.int .i64 0)).set 1 (.int .i64 0)).set 2 (.int .i64 0);have ht:=hs.touch (touch_set9 _ nb (.slice none 0 0) (.slice none 0 0) (.slice none 0 0) (.slice none 0 0) (.int .i64 0) (.int .i64 0) (.int .i64 0) (.int .i64 0) (.int .i64 0)) (fun hm=>by have:=HSZ.out;simp at hm;omega);refine bodyPost_ret (v:= .tuple #[.agg #[.int .i64 0, .int .i64 0, .int .i64 0],diaV nilDV Diag.nil.sc, .bool false]) (by simp[results,Tryz.results82,go_sem,ht.cell 0 _ rfl,ht.cell 1 _ rfl,ht.cell 2 _ rfl,hq.nine,nilDV,Diag.nil,Num.nil]) rfl ?_
 rw[hE0.out];refine⟨?_,rfl⟩
 have hsz:=HSZ.out;have hlow:=HBW.out.trans (hO.out.mono HBW.out.size);have hT3:Touch [rb] wr _:=((Touch.set1 wr rb 0 (.int .i64 0)).trans (Touch.set1 _ rb 1 (.int .i64 0)) (fun x hx=> .inl hx)).trans (Touch.set1 _ rb 2 (.int .i64 0)) (fun x hx=> .inl hx);have hl3:=hlow.trans (hT3.below hlow.size (fun x hx=>by simp at hx;omega));exact hl3.trans ((touch_set9 _ _ _ _ _ _ _ _ _ _ _).below hl3.size (fun x hx=>by simp at hx;omega))
end Go.Proofs.YtcoackmdmohnhaaGreatDoor
