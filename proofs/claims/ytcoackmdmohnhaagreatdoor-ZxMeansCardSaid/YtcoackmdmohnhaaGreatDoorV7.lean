/- Package zx: gate. -/
import Derived.Test.YtcoackmdmohnhaaGreatDoorV6
set_option linter.unusedVariables false
set_option linter.unusedSimpArgs false
set_option maxRecDepth 100000
set_option maxHeartbeats 4000000
namespace Go.Proofs.YtcoackmdmohnhaaGreatDoor
open Go.RowKit Go.Shelf
variable {α:Type} {B:Nat} {N:Nat} {p:Nat} {i:Nat} {w:World} {w':World} {v:DV} {d:Diag}
structure Drw where
 d:Diag
 la:List Int
 ha:List Bool
def Drw.put (s:Drw) (i:Nat) (kind phase:Int):Drw:=⟨s.d.put (s.la.getD i 0) (s.ha.getD i false) kind phase,s.la.set i s.d.sp.length,s.ha.set i false⟩
def Drw.two (s:Drw) (i k:Nat) (other:Int) (hat:Bool):Drw:=
 ⟨s.d.two (s.la.getD i 0) (s.ha.getD i false) ((s.la.set i s.d.sp.length).getD k 0) ((s.ha.set i false).getD k false) other hat,
  (s.la.set i s.d.sp.length).set k (s.d.put (s.la.getD i 0) (s.ha.getD i false) 1 0).sp.length,(s.ha.set i false).set k false⟩
def phaseI (kd:Int):Int:=if kd=3 then 4 else if kd=5 then 2 else if kd=6 then 6 else if kd=7 then 1 else if kd=8 then 7 else 0
def Drw.gate (s:Drw) (kd:Int) (i k:Nat):Drw:=
 if kd=1 then s.put i 2 4
 else if kd=2 then(let t:=(s.put i 1 4).put i 2 4;{t with d:={t.d with sc:=t.d.sc.mulS (Num.omega 2)}})
 else if kd=4 then {s with ha:=s.ha.set i (!s.ha.getD i false)}
 else if kd=9 then s.two i k 2 false
 else if kd=10 then s.two i k 1 true
 else if kd=11 then⟨s.d,(s.la.set i (s.la.getD k 0)).set k (s.la.getD i 0),(s.ha.set i (s.ha.getD k false)).set k (s.ha.getD i false)⟩
 else s.put i 1 (phaseI kd)
theorem getD_at {l:List α} (h:i<l.length) (z:α):l[i]?=some (l.getD i z):=by
 rw[List.getD_eq_getElem?_getD,List.getElem?_eq_getElem h];rfl
def Phs (N:Nat) (w:World):Prop:=∃bm,∀W,Below N w W→W.cell? ⟨0,0,none⟩=some (.map (some bm))∧∀k:Int,k=3∨k=5∨k=6∨k=7∨k=8→(Instr.lookup 125 (.map (some bm)) k false).run Tryz.prog W= .ok (.int .i64 (phaseI k)) W
theorem Phs.below (h:Phs N w) (hb:Below B w w') (hN:N≤B):Phs N w':=by
 obtain⟨bm,h⟩:=h;exact⟨bm,fun W hW=>h W ((hb.mono hN).trans hW)⟩
theorem xe44_0 {p:Prop} (h:p:=by
 go_wp2_with (go_at_call 69;(with_reducible refine H.mono ?_);rintro e w1 ⟨v1,rfl,hD1,hU1⟩;clear H;have HD1:=Lib.hid hD1;have HU1:=Lib.hid hU1;clear hD1 hU1)
 refine bodyPost_end (v:= .tuple #[]) (by simp[results,Tryz.results68,go_sem]) rfl ?_
 exact⟨⟨_,rfl⟩,v1,HD1.out,HU0.out.trans HU1.out⟩):p:=h
theorem xe44_1 {p:Prop} (h:p:=by
 go_wp2_with (go_at_call 113;(with_reducible refine H.mono ?_);rintro e w1 ⟨⟨z1,rfl⟩,v1,hD1,hU1⟩;clear H;have HD1:=Lib.hid hD1;have HU1:=Lib.hid hU1;clear hD1 hU1)
 refine bodyPost_end (v:= .tuple #[]) (by simp[results,Tryz.results68,go_sem]) rfl ?_
 exact⟨⟨_,rfl⟩,v1,HD1.out,HU0.out.trans HU1.out⟩):p:=h
theorem gate68 {lb ln lc hb hn hc:Nat} {la:List Int} {ha:List Bool} (h:DWk B w p v d lb ln lc hb hn hc la ha) (hG:Glob N w) (hP:Phs N w) (hN:N≤B) (hBw:B≤w.heap.size) (h1:d.sp.length≤8000) (h2:d.ln.length≤8000) (hl:ln≤10000) (hh:hn≤10000) (hc2:d.sc.check=0) (kd bt fi:Int) (hkd:kd=1∨kd=2∨kd=3∨kd=4∨kd=5∨kd=6∨kd=7∨kd=8∨kd=9∨kd=10∨kd=11) (WA:Option Addr) (wn wc:Nat) (ws:List Int) (hw:Rd 1 inC w WA wn ws) (hwn:0<wn) (hwm:wn≤1000) (i k:Nat) (hi:ws[0]?=some (i:Int)) (hk:ws[wn-1]?=some (k:Int)) (hil:i<ln) (hih:i<hn) (hkl:k<ln) (hkh:k<hn):
  Calls Tryz.prog 68 #[pt p 0, .agg #[kd, .slice WA wn wc,bt,fi]] w fun e w'=>(∃z,e= .returned z)∧∃v',DWk B w' p v' (Drw.gate ⟨d,la,ha⟩ kd i k).d lb ln lc hb hn hc (Drw.gate ⟨d,la,ha⟩ kd i k).la (Drw.gate ⟨d,la,ha⟩ kd i k).ha∧DUpd p lb hb v w v' w':=by
 obtain⟨hll,hhl⟩:=h.lLen;obtain⟨W,hW⟩:∃W,W=w.alloc (.cells #[kd, .slice WA wn wc,bt,fi] 70):=⟨_,rfl⟩;have hBW:Below w.heap.size w W:=by rw[hW];exact bR.alloc (Nat.le_refl _) _
 have hX:Blk W w.heap.size [kd, .slice WA wn wc,bt,fi] 70:=by rw[hW];exact Blk.new _ _ _
 have hD:=h.below hBW;have hBs:B≤W.heap.size:=Nat.le_trans hBw hBW.size;obtain⟨wb,wo,rfl,_,q0⟩:=(hw.below hBW).at1 hi rfl;obtain⟨wb',wo',he,_,q1⟩:=(hw.below hBW).at1 hk rfl
 obtain⟨rfl,rfl⟩:wb=wb'∧wo=wo':=by
  simp only[Option.some.injEq,Addr.mk.injEq,and_true]at he;exact he
 have x0:=hX.cell 0 _ rfl;have x1:=hX.cell 1 _ rfl;have q0':W.cell? ⟨wb,wo,none⟩=some (.int .i64 i):=by simpa using q0
 have hgx:=getD_at (l:=la) (i:=i) oM 0;have hgy:=getD_at (l:=ha) (i:=i) oM false;have HKx:=Lib.hid (getD_at (l:=la) (i:=k) oM 0);have HKy:=Lib.hid (getD_at (l:=ha) (i:=k) oM false);have HD:=Lib.hid hD;have HBW:=Lib.hid hBW;have HG:=Lib.hid (hG.below (B:=B) (hBW.mono hBw) hN);have HPH:=Lib.hid (hP.below (B:=B) (hBW.mono hBw) hN);have HC2:=Lib.hid hc2;have HU0:Aside (DUpd p lb hb v w v W):=DUpd.of_below hBW;have HW:=Lib.hid hW;have HLEN:Aside (d.sp.length≤8000∧d.ln.length≤8000∧la.length=ln∧ha.length=hn):=⟨h1,h2,hll,hhl⟩;have HX:=Lib.hid hX;clear h hw hi hk he hW hBW hX hG hP hll hhl h1 h2 q0 hc2
 have H69:∀kind phase:Int,Calls Tryz.prog 69 #[pt p 0,i,kind,phase] W _:=fun kind phase=>put69 hD hBs (by have:=HLEN.out;omega) (by have:=HLEN.out;omega) hl hh i kind phase hgx hgy;have HGX:=Lib.hid hgx;have HGY:=Lib.hid hgy;clear hD hgx hgy;have hwn1:((wn:Int)-1)=((wn-1:Nat):Int):=oM
 go_enter Tryz.func68,Tryz.ntmps68
 go_upto_region 1 with fail
 rw[←HW.out]
 go_upto_region 3 with fail
 clear q0' q1
 rcases hkd with rfl|rfl|rfl|rfl|rfl|rfl|rfl|rfl|rfl|rfl|rfl
 · clear x1;have H:=H69 2 4;clear H69;exact xe44_0
 · clear x1;have H1:=H69 1 4;clear H69
   go_upto_region 10 with(first
     | (go_at_call 69;(with_reducible refine H1.mono ?_);rintro e w1 ⟨v1,rfl,hD1,hU1⟩;clear H1
        have hB1:B≤w1.heap.size:=Nat.le_trans hBs hU1.t.size;have H2:=put69 hD1 hB1 (by rw[(len_put _ _ _ _ _).1];have:=HLEN.out;omega) (by rw[(len_put _ _ _ _ _).2];have:=HLEN.out;omega) hl hh i 2 4 (getD_at (l:=la.set i d.sp.length) (i:=i) (by rw[len_set];have:=HLEN.out;omega) 0) (getD_at (l:=ha.set i false) (i:=i) (by rw[len_set];have:=HLEN.out;omega) false);have HD1:=Lib.hid hD1;have HU1:=Lib.hid hU1
        clear hD1 hU1)
     | (go_at_call 69;(with_reducible refine H2.mono ?_);rintro e w2 ⟨v2,rfl,hD2,hU2⟩;clear H2
        have HD2:=Lib.hid hD2;have HU2:=Lib.hid (HU1.out.trans hU2)
        clear hD2 hU2))
   obtain⟨d3,hd3⟩:∃d3:Diag,d3=(d.put (la.getD i 0) (ha.getD i false) 1 4).put ((la.set i d.sp.length).getD i 0) ((ha.set i false).getD i false) 2 4:=⟨_,rfl⟩;have HD3:=Lib.hid HD2.out;rw[←hd3]at HD3;have HC3:Aside (d3.sc.check=0):=by show _=_;subst hd3;exact HC2.out
   have H112:Aside (∀u:World,Calls Tryz.prog 112 #[.int .i64 2] u fun e w'=>e= .returned (numV (⟨0,0,1,0,0⟩:Num))∧Below u.heap.size u w'):=fun u=>omega112 2 dE dE u;have HE3:=Lib.hid hd3;clear hd3
   refine wp_region_F [(40,6)] (fun l u=>l 5=false→Below w2.heap.size w2 u) (fun i u u'=>match i with|5=>Upd p v2 u v2 u'|_=>Below u.heap.size u u') (fun j x u=>match j with|0=>x 40=pt p 0|1=>x 41=pt p 0|2=>x 42=pt p 0|3=>x 43=numV (⟨0,0,1,0,0⟩:Num)|4=>∃q,x 44= .slice (some ⟨q,0,none⟩) 1 1∧w2.heap.size≤q∧Blk u q (numC (⟨0,0,1,0,0⟩:Num)) 26|5=>WK 103 [.slice (some ⟨lb,0,none⟩) ln lc, .slice (some ⟨hb,0,none⟩) hn hc] B u p v2 {d3 with sc:=if (d3.sc.mulX ⟨0,0,1,0,0⟩).least.2=0 then(d3.sc.mulX ⟨0,0,1,0,0⟩).least.1 else d3.sc}∧Upd p v2 w2 v2 u|_=>True) ?h0 ?hkeep ?hstep ?d0
   case h0=>exact fun _=>bR.drew
   case hkeep=>
    intro j9 i9 x l u u' hj hi hpre ht hG hR
    by_cases h6:j9=4
    · subst h6;obtain⟨q9,h1,h2,h3⟩:=ht;refine⟨q9,h1,h2,?_⟩
      by_cases hi7:i9=5
      · subst hi7;have hR':Upd p v2 u v2 u':=hR;refine h3.touch hR'.t (fun hm=>?_)
        rcases List.mem_cons.1 hm with rfl|hm
        · have:=HD3.out.wk.lt;omega
        have:=(HD3.out.wk.own.lt q9 hm).2;omega
      exact h3.below (by have h9:=hR;split at h9<;>first|exact(hi7 rfl).elim|exact h9)
    by_cases h7:j9=5
    · subst h7
      by_cases hi7:i9=5
      · subst hi7;rw[hj]at hi;cases hi
      have hR':Below u.heap.size u u':=by have h9:=hR;split at h9<;>first|exact(hi7 rfl).elim|exact h9
      exact⟨ht.1.below hR',ht.2.then_below hR'⟩
    exact(by have h9:=ht;clear ht;split at h9<;>first|exact h9|exact(h6 rfl).elim|exact(h7 rfl).elim)
   case hstep=>
    dsimp only[fil,fls,fl,List.toList_toArray,Nat.reduceAdd];refine⟨?_,?_,?_,?c3,?c4,?c5,trivial⟩
    all_goals intro l x u hG hno hli hpre hd K hK
    case c3=>
     clear hd;have hBl:=hG (hno 5 kR);go_simp
     (with_reducible refine(H112.out u).mono ?_);rintro e u2 ⟨rfl,hb⟩
     exact hK _ _ rfl hb (fun _=>below_then hBl hb)
    case c4=>
     have e3:x 43=numV (⟨0,0,1,0,0⟩:Num):=hd ⟨3, .data⟩ sI rfl;clear hd;simp only[e3]at hK ⊢;have hBl:=hG (hno 5 kR);go_simp
     exact hK _ _ ⟨_,rfl,hBl.size,Blk.new _ _ _⟩ (bR.alloc (Nat.le_refl _) _) (fun _=>hBl.alloc hBl.size _)
    case c5=>
     have e2:x 42=pt p 0:=hd ⟨2, .data⟩ sI rfl;have e4:∃q,x 44= .slice (some ⟨q,0,none⟩) 1 1∧w2.heap.size≤q∧Blk u q (numC (⟨0,0,1,0,0⟩:Num)) 26:=hd ⟨4, .data⟩ sI rfl;clear hd;simp only[e2]at hK ⊢;have hBl:=hG hli;obtain⟨q9,h40,hq9,hB9⟩:=e4;generalize k40:x 44=z40 at h40 hK ⊢;subst h40;have H111:=scale111 (HD3.out.wk.below hBl) (⟨0,0,1,0,0⟩:Num) q9 1 ⟨hB9.lt,(by have:=HD3.out.wk.lt;omega),fun hm=>by have:=(HD3.out.wk.own.lt q9 hm).2;omega⟩ hB9 dE HC3.out;go_simp
     (with_reducible refine H111.mono ?_);rintro e u2 ⟨rfl,hK9,hU9⟩
     exact hK _ _ ⟨hK9,(Upd.of_touch ((Touch.of_below hBl).mono sI)).trans hU9⟩ hU9 (fun h=>by simp at h)
    all_goals
     dsimp only at hd;simp only[eB]at hd
     try simp only[hd]at hK ⊢
     go_simp
     exact hK _ _ rfl bR (fun h=>hG sH)
   dsimp only[fil,fls,fl,List.toList_toArray,Nat.reduceAdd];rintro l_1 x3 u3 hall hG ⟨-,-,-,-,-,⟨hK9,hU9⟩,-⟩;clear hall hG;have HD9:=Lib.hid (HD3.out.upd hK9 hU9);have HU9:=Lib.hid ((HU0.out.trans HU2.out).trans (DUpd.of_upd hU9));clear hK9 hU9;go_wp2_with fail
   refine bodyPost_end (v:= .tuple #[]) (by simp[results,Tryz.results68,go_sem]) rfl ?_
   refine⟨⟨_,rfl⟩,v2,?_,HU9.out⟩
   have h9:=HD9.out;rw[HE3.out]at h9;exact h9
 · clear x1;have H:=H69 1 4;clear H69;obtain⟨bm,hbm⟩:=HPH.out;obtain⟨g0,hlk⟩:=hbm W bR;have hl3:=hlk 3 oM;rw[show phaseI 3=4 from rfl]at hl3;clear hbm hlk;exact xe44_0
 · clear x1 H69;have t10:=HD.out.two.2.1;have k1:=HD.out.hAt HGY.out;have f1:=HD.out.two.2.2.2 i
   go_upto_region 12 with fail
   refine wp_region_F [(48,14)] (fun l u=>(l 14=false→u=W.drew)∧(l 14=true→u=(W.drew.setCell ⟨hb,i,none⟩ (.bool (!ha.getD i false))))) (fun i u u'=>True) (fun j x u=>match j with|0=>x 48=pt p 0|1=>x 49=pt p 0|2=>x 50=pt p 10|3=>x 51= .slice (some ⟨hb,0,none⟩) hn hc|4=>x 52= .int .i64 (i:Int)|5=>x 53=pt p 0|6=>x 54=pt p 0|7=>x 55=pt p 10|8=>x 56= .slice (some ⟨hb,0,none⟩) hn hc|9=>x 57= .int .i64 (i:Int)|10=>x 58=pt hb i|11=>x 59= .bool (ha.getD i false)|12=>x 60= .bool (!ha.getD i false)|13=>x 61=pt hb i|14=>True|_=>True) ?h0 ?hkeep ?hstep ?d1
   case h0=>exact⟨(fun _=>rfl),(fun h=>by cases h)⟩
   case hkeep=>
    intro j i x l u u' hj hi hpre ht hG hR;exact ht
   case hstep=>
    dsimp only[fil,fls,fl,List.toList_toArray,Nat.reduceAdd];refine⟨?_,?_,?_,?_,?_,?_,?_,?_,?_,?_,?_,?_,?_,?_,?c14,trivial⟩
    all_goals intro l x u hG hno hli hpre hd K hK
    case c14=>
     have e13:x 61=pt hb i:=hd ⟨13, .data⟩ sI rfl;have e12:x 60= .bool (!ha.getD i false):=hd ⟨12, .data⟩ sI rfl;clear hd;simp only[e13,e12]at hK ⊢;obtain rfl:=hG.1 hli;go_simp
     exact hK undef _ trivial trivial ⟨fun h=>by simp at h,fun _=>rfl⟩
    all_goals
     dsimp only at hd;simp only[eB]at hd
     try simp only[hd]at hK ⊢
     first|(go_simp;exact hK _ _ rfl trivial sG)|(obtain rfl:=hG.1 (hno 14 kR);go_simp;exact hK _ _ rfl trivial sG)
   dsimp only[fil,fls,fl,List.toList_toArray,Nat.reduceAdd];rintro l_1 x12 u12 hall hG -;obtain rfl:=hG.2 (hall 14 dE);clear hall hG;go_wp2_with fail
   refine bodyPost_end (v:= .tuple #[]) (by simp[results,Tryz.results68,go_sem]) rfl ?_
   exact⟨⟨_,rfl⟩,v,(HD.out.below (bR.drew)).setH (i:=i) (by have:=HLEN.out;omega) _,(HU0.out.trans (DUpd.of_below (bR.drew))).trans (DUpd.set (.inr rfl))⟩
 · clear x1;have H:=H69 1 2;clear H69;obtain⟨bm,hbm⟩:=HPH.out;obtain⟨g0,hlk⟩:=hbm W bR;have hl3:=hlk 5 oM;rw[show phaseI 5=2 from rfl]at hl3;clear hbm hlk;exact xe44_0
 · clear x1;have H:=H69 1 6;clear H69;obtain⟨bm,hbm⟩:=HPH.out;obtain⟨g0,hlk⟩:=hbm W bR;have hl3:=hlk 6 oM;rw[show phaseI 6=6 from rfl]at hl3;clear hbm hlk;exact xe44_0
 · clear x1;have H:=H69 1 1;clear H69;obtain⟨bm,hbm⟩:=HPH.out;obtain⟨g0,hlk⟩:=hbm W bR;have hl3:=hlk 7 oM;rw[show phaseI 7=1 from rfl]at hl3;clear hbm hlk;exact xe44_0
 · clear x1;have H:=H69 1 7;clear H69;obtain⟨bm,hbm⟩:=HPH.out;obtain⟨g0,hlk⟩:=hbm W bR;have hl3:=hlk 8 oM;rw[show phaseI 8=7 from rfl]at hl3;clear hbm hlk;exact xe44_0
 · clear x1 H69;have H:=two113 HD.out HG.out hN hBs (by have:=HLEN.out;omega) (by have:=HLEN.out;omega) hl hh HC2.out i k 2 false HGX.out HGY.out (getD_at (by rw[len_set];have:=HLEN.out;omega) 0) (getD_at (by rw[len_set];have:=HLEN.out;omega) false);exact xe44_1
 · clear x1 H69;have H:=two113 HD.out HG.out hN hBs (by have:=HLEN.out;omega) (by have:=HLEN.out;omega) hl hh HC2.out i k 1 true HGX.out HGY.out (getD_at (by rw[len_set];have:=HLEN.out;omega) 0) (getD_at (by rw[len_set];have:=HLEN.out;omega) false);exact xe44_1
 clear H69;obtain⟨xi,hxi⟩:∃x,x=la.getD i 0:=⟨_,rfl⟩;obtain⟨xk,hxk⟩:∃x,x=la.getD k 0:=⟨_,rfl⟩;obtain⟨yi,hyi⟩:∃x,x=ha.getD i false:=⟨_,rfl⟩;obtain⟨yk,hyk⟩:∃x,x=ha.getD k false:=⟨_,rfl⟩;have hgx:=HGX.out;have hgy:=HGY.out;have hkx:=HKx.out;have hky:=HKy.out;rw[←hxi]at hgx;rw[←hyi]at hgy;rw[←hxk]at hkx;rw[←hyk]at hky;have HGY2:=Lib.hid hgy;have HKY2:=Lib.hid hky;have HXX:Aside (xi=la.getD i 0∧xk=la.getD k 0∧yi=ha.getD i false∧yk=ha.getD k false):=⟨hxi,hxk,hyi,hyk⟩;have t9:=HD.out.two.1;have l1:=HD.out.lAt hgx;have l2:=HD.out.lAt hkx;have hS1:=HD.out.setL (i:=i) (by have:=HLEN.out;omega) xk;obtain⟨xq,hxq⟩:∃x,(la.set i xk)[k]?=some x:=⟨_,getD_at (by rw[len_set];have:=HLEN.out;omega) 0⟩;have t92:=hS1.lAt hxq;have f1:=HD.out.two.2.2.1 i
 have f2:=hS1.two.2.2.1 k;clear hS1 hgx hgy hkx hky hxi hxk hyi hyk hxq
 go_upto_region 18 with fail
 refine wp_region_F [(76,26)] (fun l u=>(l 25=false→u=W.drew)∧(l 25=true→l 27=false→u=(W.drew.setCell ⟨lb,i,none⟩ xk))∧(l 27=true→u=((W.drew.setCell ⟨lb,i,none⟩ xk).setCell ⟨lb,k,none⟩ xi))) (fun i u u'=>True) (fun j x u=>match j with|0=>x 76=pt p 0|1=>x 77=pt p 0|2=>x 78=pt p 9|3=>x 79= .slice (some ⟨lb,0,none⟩) ln lc|4=>x 80= .int .i64 (i:Int)|5=>x 81=pt p 0|6=>x 82=pt p 0|7=>x 83=pt p 9|8=>x 84= .slice (some ⟨lb,0,none⟩) ln lc|9=>x 85= .int .i64 (k:Int)|10=>x 86=pt p 0|11=>x 87=pt p 0|12=>x 88=pt p 9|13=>x 89= .slice (some ⟨lb,0,none⟩) ln lc|14=>x 90= .int .i64 (k:Int)|15=>x 91=pt lb k|16=>x 92=xk|17=>x 93=pt p 0|18=>x 94=pt p 0|19=>x 95=pt p 9|20=>x 96= .slice (some ⟨lb,0,none⟩) ln lc|21=>x 97= .int .i64 (i:Int)|22=>x 98=pt lb i|23=>x 99=xi|24=>x 100=pt lb i|25=>True|26=>x 101=pt lb k|27=>True|_=>True) ?h0 ?hkeep ?hstep ?d2
 case h0=>exact⟨(fun _=>rfl),(fun h _=>by cases h),(fun h=>by cases h)⟩
 case hkeep=>
  intro j i x l u u' hj hi hpre ht hG hR;exact ht
 case hstep=>
  dsimp only[fil,fls,fl,List.toList_toArray,Nat.reduceAdd];refine⟨?_,?_,?_,?_,?_,?_,?_,?_,?_,?_,?_,?_,?_,?_,?_,?_,?_,?_,?_,?_,?_,?_,?_,?_,?_,?c25,?_,?c27,trivial⟩
  all_goals intro l x u hG hno hli hpre hd K hK
  case c25=>
   have e24:x 100=pt lb i:=hd ⟨24, .data⟩ sI rfl;have e16:x 92= .int .i64 xk:=hd ⟨16, .data⟩ sI rfl;clear hd;simp only[e24,e16]at hK ⊢;obtain rfl:=hG.1 hli;go_simp
   exact hK undef _ trivial trivial ⟨fun h=>by simp at h,fun _ _=>rfl,fun h=>by simp[hno 27 kR]at h⟩
  case c27=>
   have e26:x 101=pt lb k:=hd ⟨26, .data⟩ sI rfl;have e23:x 99= .int .i64 xi:=hd ⟨23, .data⟩ sI rfl;clear hd;simp only[e26,e23]at hK ⊢;obtain rfl:=hG.2.1 (hpre 25 kR) hli;go_simp
   exact hK undef _ trivial trivial ⟨fun h=>by simp[hpre 25 kR]at h,fun _ h=>by simp at h,fun _=>rfl⟩
  all_goals
   dsimp only at hd;simp only[eB]at hd
   try simp only[hd]at hK ⊢
   first|(go_simp;exact hK _ _ rfl trivial sG)|(obtain rfl:=hG.1 (hno 25 kR);go_simp;exact hK _ _ rfl trivial sG)
 dsimp only[fil,fls,fl,List.toList_toArray,Nat.reduceAdd];rintro l_1 x18 u18 hall hG -;obtain rfl:=hG.2.2 (hall 27 dE);clear hall hG
 go_upto_region 19 with fail
 obtain⟨W18,hW18⟩:∃W18,W18=(W.drew.setCell ⟨lb,i,none⟩ xk).setCell ⟨lb,k,none⟩ xi:=⟨_,rfl⟩;rw[←hW18];have hbd:Below W.heap.size W W.drew:=bR.drew;have hT:=((HD.out.below hbd).setL (i:=i) (by have:=HLEN.out;omega) xk).setL (i:=k) (by rw[len_set];have:=HLEN.out;omega) xi;rw[←hW18]at hT;have hU:DUpd p lb hb v w v W18:=by rw[hW18];exact(HU0.out.trans (DUpd.of_below hbd)).trans ((DUpd.set (.inl rfl)).trans (DUpd.set (.inl rfl)))
 have t10:=hT.two.2.1;have m1:=hT.hAt HGY2.out;have m2:=hT.hAt HKY2.out;have hS1:=hT.setH (i:=i) (by have:=HLEN.out;omega) yk;obtain⟨yq,hyq⟩:∃x,(ha.set i yk)[k]?=some x:=⟨_,getD_at (by rw[len_set];have:=HLEN.out;omega) false⟩;have m3:=hS1.hAt hyq;have e1:=hT.two.2.2.2 i;have e2:=hS1.two.2.2.2 k;have hbd2:Below W18.heap.size W18 W18.drew:=bR.drew;have HT2:=Lib.hid (((hT.below hbd2).setH (i:=i) (by have:=HLEN.out;omega) yk).setH (i:=k) (by rw[len_set];have:=HLEN.out;omega) yi);have HUT:Aside (DUpd p lb hb v w v ((W18.drew.setCell ⟨hb,i,none⟩ (.bool yk)).setCell ⟨hb,k,none⟩ (.bool yi))):=(hU.trans (DUpd.of_below hbd2)).trans ((DUpd.set (.inr rfl)).trans (DUpd.set (.inr rfl)));clear hW18 hT hU hS1 hbd hbd2 t9 l1 l2 t92 f1 f2 hyq
 refine wp_region_F [(102,26)] (fun l u=>(l 25=false→u=W18.drew)∧(l 25=true→l 27=false→u=(W18.drew.setCell ⟨hb,i,none⟩ (.bool yk)))∧(l 27=true→u=((W18.drew.setCell ⟨hb,i,none⟩ (.bool yk)).setCell ⟨hb,k,none⟩ (.bool yi)))) (fun i u u'=>True) (fun j x u=>match j with|0=>x 102=pt p 0|1=>x 103=pt p 0|2=>x 104=pt p 10|3=>x 105= .slice (some ⟨hb,0,none⟩) hn hc|4=>x 106= .int .i64 (i:Int)|5=>x 107=pt p 0|6=>x 108=pt p 0|7=>x 109=pt p 10|8=>x 110= .slice (some ⟨hb,0,none⟩) hn hc|9=>x 111= .int .i64 (k:Int)|10=>x 112=pt p 0|11=>x 113=pt p 0|12=>x 114=pt p 10|13=>x 115= .slice (some ⟨hb,0,none⟩) hn hc|14=>x 116= .int .i64 (k:Int)|15=>x 117=pt hb k|16=>x 118= .bool yk|17=>x 119=pt p 0|18=>x 120=pt p 0|19=>x 121=pt p 10|20=>x 122= .slice (some ⟨hb,0,none⟩) hn hc|21=>x 123= .int .i64 (i:Int)|22=>x 124=pt hb i|23=>x 125= .bool yi|24=>x 126=pt hb i|25=>True|26=>x 127=pt hb k|27=>True|_=>True) ?h0 ?hkeep ?hstep ?d3
 case h0=>exact⟨(fun _=>rfl),(fun h _=>by cases h),(fun h=>by cases h)⟩
 case hkeep=>
  intro j i x l u u' hj hi hpre ht hG hR;exact ht
 case hstep=>
  dsimp only[fil,fls,fl,List.toList_toArray,Nat.reduceAdd];refine⟨?_,?_,?_,?_,?_,?_,?_,?_,?_,?_,?_,?_,?_,?_,?_,?_,?_,?_,?_,?_,?_,?_,?_,?_,?_,?c25,?_,?c27,trivial⟩
  all_goals intro l x u hG hno hli hpre hd K hK
  case c25=>
   have e24:x 126=pt hb i:=hd ⟨24, .data⟩ sI rfl;have e16:x 118= .bool yk:=hd ⟨16, .data⟩ sI rfl;clear hd;simp only[e24,e16]at hK ⊢;obtain rfl:=hG.1 hli;go_simp
   exact hK undef _ trivial trivial ⟨fun h=>by simp at h,fun _ _=>rfl,fun h=>by simp[hno 27 kR]at h⟩
  case c27=>
   have e26:x 127=pt hb k:=hd ⟨26, .data⟩ sI rfl;have e23:x 125= .bool yi:=hd ⟨23, .data⟩ sI rfl;clear hd;simp only[e26,e23]at hK ⊢;obtain rfl:=hG.2.1 (hpre 25 kR) hli;go_simp
   exact hK undef _ trivial trivial ⟨fun h=>by simp[hpre 25 kR]at h,fun _ h=>by simp at h,fun _=>rfl⟩
  all_goals
   dsimp only at hd;simp only[eB]at hd
   try simp only[hd]at hK ⊢
   first|(go_simp;exact hK _ _ rfl trivial sG)|(obtain rfl:=hG.1 (hno 25 kR);go_simp;exact hK _ _ rfl trivial sG)
 dsimp only[fil,fls,fl,List.toList_toArray,Nat.reduceAdd];rintro l_1 x19 u19 hall hG -;obtain rfl:=hG.2.2 (hall 27 dE);clear hall hG;go_wp2_with fail
 refine bodyPost_end (v:= .tuple #[]) (by simp[results,Tryz.results68,go_sem]) rfl ?_
 have hxx:=HXX.out;have e9:Drw.gate ⟨d,la,ha⟩ 11 i k=⟨d,(la.set i xk).set k xi,(ha.set i yk).set k yi⟩:=by rw[hxx.1,hxx.2.1,hxx.2.2.1,hxx.2.2.2];rfl
 rw[e9];exact⟨⟨_,rfl⟩,v,HT2.out,HUT.out⟩
end Go.Proofs.YtcoackmdmohnhaaGreatDoor
