/- The reference: product. -/
import Derived.Test.YtcoackmdmohnhaaGreatDoorV30
import Derived.Test.YtcoackmdmohnhaaGreatDoorV22
import Derived.Deep.LoopGhost
import Derived.Deep.Draws
import Derived.Shelf.Abstract
import Derived.LoopTactic
import Derived.Deep.QuietTactic
import Derived.BigQuiet
import Derived.Deep.RegionHeld3
import Derived.Deep.RegionHeldLaw
import Derived.RegionTactic
import Derived.BigRegion
import Derived.WalkLawsBesides
import Derived.Laws.EntriesVeiled
import Derived.Laws.StructEq
import Derived.Deep.DeepCutAuto
import Derived.Handy
import Derived.IntWalk
set_option linter.unusedVariables false
set_option linter.unusedSimpArgs false
set_option maxRecDepth 100000
set_option maxHeartbeats 4000000
namespace Go.Proofs.YtcoackmdmohnhaaGreatDoor
open Go.RowKit Go.Shelf
theorem mac_bounds (a0 a1 a2 a3 b0 b1 b2 b3:Int) (h:∀p∈[a0,a1,a2,a3],∀q∈[b0,b1,b2,b3],-1152921504606846976≤p*q∧p*q≤1152921504606846976):
    ∀i k:Nat,i<4→k<4→(macI [a0,a1,a2,a3] [b0,b1,b2,b3] i k (macA [a0,a1,a2,a3] [b0,b1,b2,b3] i [0,0,0,0])).length=4∧-3458764513820540928≤(macI [a0,a1,a2,a3] [b0,b1,b2,b3] i k (macA [a0,a1,a2,a3] [b0,b1,b2,b3] i [0,0,0,0])).getD ((i+k)%4) 0∧(macI [a0,a1,a2,a3] [b0,b1,b2,b3] i k (macA [a0,a1,a2,a3] [b0,b1,b2,b3] i [0,0,0,0])).getD ((i+k)%4) 0≤3458764513820540928:=by
  simp only[List.mem_cons,List.not_mem_nil,or_false,forall_eq_or_imp,forall_eq]at h
  obtain⟨⟨p00,p01,p02,p03⟩,⟨p10,p11,p12,p13⟩,⟨p20,p21,p22,p23⟩,p30,p31,p32,p33⟩:=h
  intro i k hi hk
  match i,k,hi,hk with
  |0,0,_,_=>simp[macA,macI,mac]
  |0,1,_,_=>simp[macA,macI,mac]
  |0,2,_,_=>simp[macA,macI,mac]
  |0,3,_,_=>simp[macA,macI,mac]
  |1,0,_,_=>simp[macA,macI,mac];omega
  |1,1,_,_=>simp[macA,macI,mac];omega
  |1,2,_,_=>simp[macA,macI,mac];omega
  |1,3,_,_=>simp[macA,macI,mac];omega
  |2,0,_,_=>simp[macA,macI,mac];omega
  |2,1,_,_=>simp[macA,macI,mac];omega
  |2,2,_,_=>simp[macA,macI,mac];omega
  |2,3,_,_=>simp[macA,macI,mac];omega
  |3,0,_,_=>simp[macA,macI,mac];omega
  |3,1,_,_=>simp[macA,macI,mac];omega
  |3,2,_,_=>simp[macA,macI,mac];omega
  |3,3,_,_=>simp[macA,macI,mac];omega
  |i+4,_,h,_=>omega
  |0,k+4,_,h=>omega
  |1,k+4,_,h=>omega
  |2,k+4,_,h=>omega
  |3,k+4,_,h=>omega
theorem product57 (X Y:Num) (w:World) (hP:∀p∈[X.a,X.b,X.c,X.d],∀q∈[Y.a,Y.b,Y.c,Y.d],-1152921504606846976≤p*q∧p*q≤1152921504606846976) (hk:-1000000≤X.k+Y.k) (hk2:X.k+Y.k≤1000):
    Calls Tryz.prog 57 #[numV X,numV Y] w fun e w'=>e= .returned (numV (X.mulX Y).form)∧Below w.heap.size w w':=by
  obtain⟨W,hW⟩:∃W,W=(((w.alloc (.cells #[.int .i64 X.a, .int .i64 X.b, .int .i64 X.c, .int .i64 X.d, .int .i64 X.k] 26)).alloc (.cells #[.int .i64 Y.a, .int .i64 Y.b, .int .i64 Y.c, .int .i64 Y.d, .int .i64 Y.k] 26)).alloc (.cells #[.int .i64 0, .int .i64 0, .int .i64 0, .int .i64 0, .int .i64 0] 26)):=⟨_,rfl⟩
  have hX1:Blk W w.heap.size [.int .i64 X.a, .int .i64 X.b, .int .i64 X.c, .int .i64 X.d, .int .i64 X.k] 26:=by
    rw[hW]
    have h9:=(((Blk.new w #[.int .i64 X.a, .int .i64 X.b, .int .i64 X.c, .int .i64 X.d, .int .i64 X.k] 26).alloc (.cells #[.int .i64 Y.a, .int .i64 Y.b, .int .i64 Y.c, .int .i64 Y.d, .int .i64 Y.k] 26)).alloc (.cells #[.int .i64 0, .int .i64 0, .int .i64 0, .int .i64 0, .int .i64 0] 26))
    simpa using h9
  have hX2:Blk W (w.heap.size+1) [.int .i64 Y.a, .int .i64 Y.b, .int .i64 Y.c, .int .i64 Y.d, .int .i64 Y.k] 26:=by
    rw[hW]
    have h9:=((Blk.new (w.alloc (.cells #[.int .i64 X.a, .int .i64 X.b, .int .i64 X.c, .int .i64 X.d, .int .i64 X.k] 26)) #[.int .i64 Y.a, .int .i64 Y.b, .int .i64 Y.c, .int .i64 Y.d, .int .i64 Y.k] 26).alloc (.cells #[.int .i64 0, .int .i64 0, .int .i64 0, .int .i64 0, .int .i64 0] 26))
    simpa using h9
  have hX3:Blk W (w.heap.size+1+1) [.int .i64 0, .int .i64 0, .int .i64 0, .int .i64 0, .int .i64 0] 26:=by
    rw[hW]
    have h9:=(Blk.new ((w.alloc (.cells #[.int .i64 X.a, .int .i64 X.b, .int .i64 X.c, .int .i64 X.d, .int .i64 X.k] 26)).alloc (.cells #[.int .i64 Y.a, .int .i64 Y.b, .int .i64 Y.c, .int .i64 Y.d, .int .i64 Y.k] 26)) #[.int .i64 0, .int .i64 0, .int .i64 0, .int .i64 0, .int .i64 0] 26)
    simpa using h9
  have hBW:Below w.heap.size w W:=by rw[hW];exact(((Below.refl _ _).alloc (by simp;try omega) _).alloc (by simp;try omega) _).alloc (by simp;try omega) _
  have hsz:W.heap.size=w.heap.size+3:=by rw[hW];simp
  generalize hX3b:w.heap.size+1+1=X3b at hX3
  generalize hX2b:w.heap.size+1=X2b at hX2 hX3b
  have HB1:=Lib.hid hX1
  have HB2:=Lib.hid hX2
  have HB3:=Lib.hid hX3
  have HBW:=Lib.hid hBW
  have HSZ:Aside (W.heap.size=w.heap.size+3∧X2b=w.heap.size+1∧X3b=w.heap.size+2):=⟨hsz,hX2b.symm,by omega⟩
  have HW:=Lib.hid hW
  have HPP:Aside (∀p∈[X.a,X.b,X.c,X.d],∀q∈[Y.a,Y.b,Y.c,Y.d],-1152921504606846976≤p*q∧p*q≤1152921504606846976):=hP
  have HS:Aside (∀u,Below W.heap.size W u→u.cell? ⟨w.heap.size,0,none⟩=some (.int .i64 X.a)∧u.cell? ⟨w.heap.size,1,none⟩=some (.int .i64 X.b)∧u.cell? ⟨w.heap.size,2,none⟩=some (.int .i64 X.c)∧u.cell? ⟨w.heap.size,3,none⟩=some (.int .i64 X.d)∧u.cell? ⟨w.heap.size,4,none⟩=some (.int .i64 X.k)∧u.cell? ⟨X2b,0,none⟩=some (.int .i64 Y.a)∧u.cell? ⟨X2b,1,none⟩=some (.int .i64 Y.b)∧u.cell? ⟨X2b,2,none⟩=some (.int .i64 Y.c)∧u.cell? ⟨X2b,3,none⟩=some (.int .i64 Y.d)∧u.cell? ⟨X2b,4,none⟩=some (.int .i64 Y.k)):=by
    intro u hu
    obtain⟨x0,x1,x2,x3,x4,xf⟩:=(hX1.below hu).five
    obtain⟨y0,y1,y2,y3,y4,yf⟩:=(hX2.below hu).five
    exact⟨x0,x1,x2,x3,x4,y0,y1,y2,y3,y4⟩
  clear hP hX1 hX2 hX3 hBW hsz hW
  go_enter Tryz.func57,Tryz.ntmps57
  go_upto_region 1 with fail
  try rw[hX3b]
  try rw[hX2b]
  rw[←HW.out]
  clear hX2b hX3b
  refine wp_region_stepsX (by kernel_rfl) (fun x=>{tmps:=#[numV X,numV Y, .pointer (some ⟨w.heap.size,0,none⟩), .pointer (some ⟨X2b,0,none⟩), .pointer (some ⟨X3b,0,none⟩),x 5,x 6,undef,undef,undef,x 10,x 11,x 12,x 13,x 14,x 15,x 16,x 17,x 18,x 19,x 20,x 21,x 22,x 23,x 24,x 25,x 26,x 27,undef,undef,undef,undef,undef,undef,undef,undef,undef,undef,undef,undef,undef,undef,undef,undef,undef,undef,undef,undef,undef,undef,undef,undef,undef,undef,undef,undef,undef,undef,undef,undef,undef,undef,undef,undef,undef,undef,undef,undef,undef,undef,undef,undef,undef,undef,undef,undef,undef,undef,undef,undef,undef,undef,undef,undef],defers:=[]}) (fun _=>undef) rfl (fun l x u=>Below W.heap.size W u∧(l 18=true→∃q,x 5= .pointer (some ⟨q,0,none⟩)∧q<u.heap.size)∧(l 19=true→∃q,x 6= .pointer (some ⟨q,0,none⟩)∧q<u.heap.size)∧(l 18=true→l 19=true→x 5≠x 6)∧(l 20=true→l 21=false→∃q q8 y0 y1 y2 y3,x 5= .pointer (some ⟨q,0,none⟩)∧x 6= .pointer (some ⟨q8,0,none⟩)∧q≠q8∧W.heap.size≤q∧W.heap.size≤q8∧Blk u q [.int .i64 X.a, .int .i64 X.b, .int .i64 X.c, .int .i64 X.d] 135∧Blk u q8 [y0,y1,y2,y3] 135)) (fun i u u'=>match i with|20=>∃q v0 v1 v2 v3,u'=((((u.setCell ⟨q,0,none⟩ v0).setCell ⟨q,1,none⟩ v1).setCell ⟨q,2,none⟩ v2).setCell ⟨q,3,none⟩ v3)|21=>∃q v0 v1 v2 v3,u'=((((u.setCell ⟨q,0,none⟩ v0).setCell ⟨q,1,none⟩ v1).setCell ⟨q,2,none⟩ v2).setCell ⟨q,3,none⟩ v3)|_=>Below u.heap.size u u') (fun j=>match j with|0=>[10]|1=>[11]|2=>[12]|3=>[13]|4=>[14]|5=>[15]|6=>[16]|7=>[17]|8=>[18]|9=>[19]|10=>[20]|11=>[21]|12=>[22]|13=>[23]|14=>[24]|15=>[25]|16=>[26]|17=>[27]|18=>[5]|19=>[6]|20=>[6]|21=>[5,6]|_=>[]) (fun j x u=>match j with|0=>x 10= .pointer (some ⟨w.heap.size,0,none⟩)|1=>x 11= .int .i64 X.a|2=>x 12= .pointer (some ⟨w.heap.size,1,none⟩)|3=>x 13= .int .i64 X.b|4=>x 14= .pointer (some ⟨w.heap.size,2,none⟩)|5=>x 15= .int .i64 X.c|6=>x 16= .pointer (some ⟨w.heap.size,3,none⟩)|7=>x 17= .int .i64 X.d|8=>x 18= .agg #[.int .i64 X.a, .int .i64 X.b, .int .i64 X.c, .int .i64 X.d]|9=>x 19= .pointer (some ⟨X2b,0,none⟩)|10=>x 20= .int .i64 Y.a|11=>x 21= .pointer (some ⟨X2b,1,none⟩)|12=>x 22= .int .i64 Y.b|13=>x 23= .pointer (some ⟨X2b,2,none⟩)|14=>x 24= .int .i64 Y.c|15=>x 25= .pointer (some ⟨X2b,3,none⟩)|16=>x 26= .int .i64 Y.d|17=>x 27= .agg #[.int .i64 Y.a, .int .i64 Y.b, .int .i64 Y.c, .int .i64 Y.d]|18=>∃q y0 y1 y2 y3,x 5= .pointer (some ⟨q,0,none⟩)∧Blk u q [y0,y1,y2,y3] 135∧W.heap.size≤q|19=>∃q y0 y1 y2 y3,x 6= .pointer (some ⟨q,0,none⟩)∧Blk u q [y0,y1,y2,y3] 135∧W.heap.size≤q|20=>∃q,x 6= .pointer (some ⟨q,0,none⟩)|21=>∃q q8,x 5= .pointer (some ⟨q,0,none⟩)∧x 6= .pointer (some ⟨q8,0,none⟩)∧q≠q8∧W.heap.size≤q∧W.heap.size≤q8∧Blk u q [.int .i64 X.a, .int .i64 X.b, .int .i64 X.c, .int .i64 X.d] 135∧Blk u q8 [.int .i64 Y.a, .int .i64 Y.b, .int .i64 Y.c, .int .i64 Y.d] 135|_=>True) (by kernel_rfl) ?hput (by kernel_rfl) (by kernel_rfl) ?h0 ?hkeep ?hloc ?hstep ?hend
  case hput=>exact⟨(fun d hd x v=>by cases hd;rfl),(fun d hd x v=>by cases hd;rfl),(fun d hd x v=>by cases hd;rfl),(fun d hd x v=>by cases hd;rfl),(fun d hd x v=>by cases hd;rfl),(fun d hd x v=>by cases hd;rfl),(fun d hd x v=>by cases hd;rfl),(fun d hd x v=>by cases hd;rfl),(fun d hd x v=>by cases hd;rfl),(fun d hd x v=>by cases hd;rfl),(fun d hd x v=>by cases hd;rfl),(fun d hd x v=>by cases hd;rfl),(fun d hd x v=>by cases hd;rfl),(fun d hd x v=>by cases hd;rfl),(fun d hd x v=>by cases hd;rfl),(fun d hd x v=>by cases hd;rfl),(fun d hd x v=>by cases hd;rfl),(fun d hd x v=>by cases hd;rfl),(fun d hd x v=>by cases hd;rfl),(fun d hd x v=>by cases hd;rfl),(fun d hd x v=>by cases hd),(fun d hd x v=>by cases hd),trivial⟩
  case h0=>exact⟨(Below.refl _ _).drew,(fun h=>by cases h),(fun h=>by cases h),(fun h=>by cases h),(fun h=>by cases h)⟩
  case hkeep=>
    intro j i x l u u' hj hi hpre ht hG hR
    by_cases hj7:j=18
    · subst hj7
      obtain⟨q,y0,y1,y2,y3,h1,h2,h3⟩:=ht
      by_cases hi9:i=20
      · subst hi9
        obtain⟨q',v0,v1,v2,v3,rfl⟩:=hR
        by_cases e:q'=q
        · subst e;exact⟨q',_,_,_,_,h1,h2.set4 _ _ _ _,h3⟩
        · exact⟨q,_,_,_,_,h1,h2.set4_other e _ _ _ _,h3⟩
      · by_cases hi10:i=21
        · subst hi10
          obtain⟨q',v0,v1,v2,v3,rfl⟩:=hR
          by_cases e:q'=q
          · subst e;exact⟨q',_,_,_,_,h1,h2.set4 _ _ _ _,h3⟩
          · exact⟨q,_,_,_,_,h1,h2.set4_other e _ _ _ _,h3⟩
        · exact⟨q,_,_,_,_,h1,h2.below (by have h9:=hR;split at h9<;>first|exact(hi9 rfl).elim|exact(hi10 rfl).elim|exact h9),h3⟩
    · by_cases hj8:j=19
      · subst hj8
        obtain⟨q,y0,y1,y2,y3,h1,h2,h3⟩:=ht
        by_cases hi9:i=20
        · subst hi9
          obtain⟨q',v0,v1,v2,v3,rfl⟩:=hR
          by_cases e:q'=q
          · subst e;exact⟨q',_,_,_,_,h1,h2.set4 _ _ _ _,h3⟩
          · exact⟨q,_,_,_,_,h1,h2.set4_other e _ _ _ _,h3⟩
        · by_cases hi10:i=21
          · subst hi10
            obtain⟨q',v0,v1,v2,v3,rfl⟩:=hR
            by_cases e:q'=q
            · subst e;exact⟨q',_,_,_,_,h1,h2.set4 _ _ _ _,h3⟩
            · exact⟨q,_,_,_,_,h1,h2.set4_other e _ _ _ _,h3⟩
          · exact⟨q,_,_,_,_,h1,h2.below (by have h9:=hR;split at h9<;>first|exact(hi9 rfl).elim|exact(hi10 rfl).elim|exact h9),h3⟩
      · by_cases hj10:j=21
        · subst hj10
          obtain⟨q,q8,h1,h2,h3,h4,h5,h6,h7⟩:=ht
          by_cases hi9:i=20
          · subst hi9;rw[hpre 20 (by kernel_rfl)]at hi;cases hi
          · by_cases hi10:i=21
            · subst hi10;rw[hj]at hi;cases hi
            · exact⟨q,q8,h1,h2,h3,h4,h5,h6.below (by have h9:=hR;split at h9<;>first|exact(hi9 rfl).elim|exact(hi10 rfl).elim|exact h9),h7.below (by have h9:=hR;split at h9<;>first|exact(hi9 rfl).elim|exact(hi10 rfl).elim|exact h9)⟩
        · exact(by have h9:=ht;clear ht;split at h9<;>first|exact h9|exact(hj7 rfl).elim|exact(hj8 rfl).elim|exact(hj10 rfl).elim)
  case hloc=>exact⟨(fun x x' u h ht=>by have h10:=h 10 (by simp);simp only[h10]at ht;exact ht),(fun x x' u h ht=>by have h11:=h 11 (by simp);simp only[h11]at ht;exact ht),(fun x x' u h ht=>by have h12:=h 12 (by simp);simp only[h12]at ht;exact ht),(fun x x' u h ht=>by have h13:=h 13 (by simp);simp only[h13]at ht;exact ht),(fun x x' u h ht=>by have h14:=h 14 (by simp);simp only[h14]at ht;exact ht),(fun x x' u h ht=>by have h15:=h 15 (by simp);simp only[h15]at ht;exact ht),(fun x x' u h ht=>by have h16:=h 16 (by simp);simp only[h16]at ht;exact ht),(fun x x' u h ht=>by have h17:=h 17 (by simp);simp only[h17]at ht;exact ht),(fun x x' u h ht=>by have h18:=h 18 (by simp);simp only[h18]at ht;exact ht),(fun x x' u h ht=>by have h19:=h 19 (by simp);simp only[h19]at ht;exact ht),(fun x x' u h ht=>by have h20:=h 20 (by simp);simp only[h20]at ht;exact ht),(fun x x' u h ht=>by have h21:=h 21 (by simp);simp only[h21]at ht;exact ht),(fun x x' u h ht=>by have h22:=h 22 (by simp);simp only[h22]at ht;exact ht),(fun x x' u h ht=>by have h23:=h 23 (by simp);simp only[h23]at ht;exact ht),(fun x x' u h ht=>by have h24:=h 24 (by simp);simp only[h24]at ht;exact ht),(fun x x' u h ht=>by have h25:=h 25 (by simp);simp only[h25]at ht;exact ht),(fun x x' u h ht=>by have h26:=h 26 (by simp);simp only[h26]at ht;exact ht),(fun x x' u h ht=>by have h27:=h 27 (by simp);simp only[h27]at ht;exact ht),(fun x x' u h ht=>by have h5:=h 5 (by simp);simp only[h5]at ht;exact ht),(fun x x' u h ht=>by have h6:=h 6 (by simp);simp only[h6]at ht;exact ht),(fun x x' u h ht=>by have h6:=h 6 (by simp);simp only[h6]at ht;exact ht),(fun x x' u h ht=>by have h5:=h 5 (by simp);have h6:=h 6 (by simp);simp only[h5,h6]at ht;exact ht),trivial⟩
  case hstep=>
    refine⟨?_,?_,?_,?_,?_,?_,?_,?_,?_,?_,?_,?_,?_,?_,?_,?_,?_,?_,?_,?_,?_,?_,trivial⟩
    · intro l x u hG hno hli hpre hd K hK
      clear hd
      go_simp
      exact hK _ _ rfl (Below.refl _ _) ⟨hG.1,(fun h=>by simpa [updV] using hG.2.1 (by simpa using h)),(fun h=>by simpa [updV] using hG.2.2.1 (by simpa using h)),(fun h1 h2=>by simpa [updV] using hG.2.2.2.1 (by simpa using h1) (by simpa using h2)),(fun h1 h2=>by simpa [updV] using hG.2.2.2.2 (by simpa using h1) (by simpa using h2))⟩
    · intro l x u hG hno hli hpre hd K hK
      have e0:x 10= .pointer (some ⟨w.heap.size,0,none⟩):=hd ⟨0, .data⟩ (by simp) rfl
      clear hd
      generalize x 10=z0 at e0 hK ⊢
      subst e0
      obtain⟨a0,a1,a2,a3,a4,b0,b1,b2,b3,b4⟩:=HS.out _ hG.1
      go_simp
      exact hK _ _ rfl (Below.refl _ _) ⟨hG.1,(fun h=>by simpa [updV] using hG.2.1 (by simpa using h)),(fun h=>by simpa [updV] using hG.2.2.1 (by simpa using h)),(fun h1 h2=>by simpa [updV] using hG.2.2.2.1 (by simpa using h1) (by simpa using h2)),(fun h1 h2=>by simpa [updV] using hG.2.2.2.2 (by simpa using h1) (by simpa using h2))⟩
    · intro l x u hG hno hli hpre hd K hK
      clear hd
      go_simp
      exact hK _ _ rfl (Below.refl _ _) ⟨hG.1,(fun h=>by simpa [updV] using hG.2.1 (by simpa using h)),(fun h=>by simpa [updV] using hG.2.2.1 (by simpa using h)),(fun h1 h2=>by simpa [updV] using hG.2.2.2.1 (by simpa using h1) (by simpa using h2)),(fun h1 h2=>by simpa [updV] using hG.2.2.2.2 (by simpa using h1) (by simpa using h2))⟩
    · intro l x u hG hno hli hpre hd K hK
      have e2:x 12= .pointer (some ⟨w.heap.size,1,none⟩):=hd ⟨2, .data⟩ (by simp) rfl
      clear hd
      generalize x 12=z2 at e2 hK ⊢
      subst e2
      obtain⟨a0,a1,a2,a3,a4,b0,b1,b2,b3,b4⟩:=HS.out _ hG.1
      go_simp
      exact hK _ _ rfl (Below.refl _ _) ⟨hG.1,(fun h=>by simpa [updV] using hG.2.1 (by simpa using h)),(fun h=>by simpa [updV] using hG.2.2.1 (by simpa using h)),(fun h1 h2=>by simpa [updV] using hG.2.2.2.1 (by simpa using h1) (by simpa using h2)),(fun h1 h2=>by simpa [updV] using hG.2.2.2.2 (by simpa using h1) (by simpa using h2))⟩
    · intro l x u hG hno hli hpre hd K hK
      clear hd
      go_simp
      exact hK _ _ rfl (Below.refl _ _) ⟨hG.1,(fun h=>by simpa [updV] using hG.2.1 (by simpa using h)),(fun h=>by simpa [updV] using hG.2.2.1 (by simpa using h)),(fun h1 h2=>by simpa [updV] using hG.2.2.2.1 (by simpa using h1) (by simpa using h2)),(fun h1 h2=>by simpa [updV] using hG.2.2.2.2 (by simpa using h1) (by simpa using h2))⟩
    · intro l x u hG hno hli hpre hd K hK
      have e4:x 14= .pointer (some ⟨w.heap.size,2,none⟩):=hd ⟨4, .data⟩ (by simp) rfl
      clear hd
      generalize x 14=z4 at e4 hK ⊢
      subst e4
      obtain⟨a0,a1,a2,a3,a4,b0,b1,b2,b3,b4⟩:=HS.out _ hG.1
      go_simp
      exact hK _ _ rfl (Below.refl _ _) ⟨hG.1,(fun h=>by simpa [updV] using hG.2.1 (by simpa using h)),(fun h=>by simpa [updV] using hG.2.2.1 (by simpa using h)),(fun h1 h2=>by simpa [updV] using hG.2.2.2.1 (by simpa using h1) (by simpa using h2)),(fun h1 h2=>by simpa [updV] using hG.2.2.2.2 (by simpa using h1) (by simpa using h2))⟩
    · intro l x u hG hno hli hpre hd K hK
      clear hd
      go_simp
      exact hK _ _ rfl (Below.refl _ _) ⟨hG.1,(fun h=>by simpa [updV] using hG.2.1 (by simpa using h)),(fun h=>by simpa [updV] using hG.2.2.1 (by simpa using h)),(fun h1 h2=>by simpa [updV] using hG.2.2.2.1 (by simpa using h1) (by simpa using h2)),(fun h1 h2=>by simpa [updV] using hG.2.2.2.2 (by simpa using h1) (by simpa using h2))⟩
    · intro l x u hG hno hli hpre hd K hK
      have e6:x 16= .pointer (some ⟨w.heap.size,3,none⟩):=hd ⟨6, .data⟩ (by simp) rfl
      clear hd
      generalize x 16=z6 at e6 hK ⊢
      subst e6
      obtain⟨a0,a1,a2,a3,a4,b0,b1,b2,b3,b4⟩:=HS.out _ hG.1
      go_simp
      exact hK _ _ rfl (Below.refl _ _) ⟨hG.1,(fun h=>by simpa [updV] using hG.2.1 (by simpa using h)),(fun h=>by simpa [updV] using hG.2.2.1 (by simpa using h)),(fun h1 h2=>by simpa [updV] using hG.2.2.2.1 (by simpa using h1) (by simpa using h2)),(fun h1 h2=>by simpa [updV] using hG.2.2.2.2 (by simpa using h1) (by simpa using h2))⟩
    · intro l x u hG hno hli hpre hd K hK
      have e1:x 11= .int .i64 X.a:=hd ⟨1, .data⟩ (by simp) rfl
      have e3:x 13= .int .i64 X.b:=hd ⟨3, .data⟩ (by simp) rfl
      have e5:x 15= .int .i64 X.c:=hd ⟨5, .data⟩ (by simp) rfl
      have e7:x 17= .int .i64 X.d:=hd ⟨7, .data⟩ (by simp) rfl
      clear hd
      generalize x 11=z1 at e1 hK ⊢
      subst e1
      generalize x 13=z3 at e3 hK ⊢
      subst e3
      generalize x 15=z5 at e5 hK ⊢
      subst e5
      generalize x 17=z7 at e7 hK ⊢
      subst e7
      go_simp
      exact hK _ _ rfl (Below.refl _ _) ⟨hG.1,(fun h=>by simpa [updV] using hG.2.1 (by simpa using h)),(fun h=>by simpa [updV] using hG.2.2.1 (by simpa using h)),(fun h1 h2=>by simpa [updV] using hG.2.2.2.1 (by simpa using h1) (by simpa using h2)),(fun h1 h2=>by simpa [updV] using hG.2.2.2.2 (by simpa using h1) (by simpa using h2))⟩
    · intro l x u hG hno hli hpre hd K hK
      clear hd
      go_simp
      exact hK _ _ rfl (Below.refl _ _) ⟨hG.1,(fun h=>by simpa [updV] using hG.2.1 (by simpa using h)),(fun h=>by simpa [updV] using hG.2.2.1 (by simpa using h)),(fun h1 h2=>by simpa [updV] using hG.2.2.2.1 (by simpa using h1) (by simpa using h2)),(fun h1 h2=>by simpa [updV] using hG.2.2.2.2 (by simpa using h1) (by simpa using h2))⟩
    · intro l x u hG hno hli hpre hd K hK
      have e9:x 19= .pointer (some ⟨X2b,0,none⟩):=hd ⟨9, .data⟩ (by simp) rfl
      clear hd
      generalize x 19=z9 at e9 hK ⊢
      subst e9
      obtain⟨a0,a1,a2,a3,a4,b0,b1,b2,b3,b4⟩:=HS.out _ hG.1
      go_simp
      exact hK _ _ rfl (Below.refl _ _) ⟨hG.1,(fun h=>by simpa [updV] using hG.2.1 (by simpa using h)),(fun h=>by simpa [updV] using hG.2.2.1 (by simpa using h)),(fun h1 h2=>by simpa [updV] using hG.2.2.2.1 (by simpa using h1) (by simpa using h2)),(fun h1 h2=>by simpa [updV] using hG.2.2.2.2 (by simpa using h1) (by simpa using h2))⟩
    · intro l x u hG hno hli hpre hd K hK
      clear hd
      go_simp
      exact hK _ _ rfl (Below.refl _ _) ⟨hG.1,(fun h=>by simpa [updV] using hG.2.1 (by simpa using h)),(fun h=>by simpa [updV] using hG.2.2.1 (by simpa using h)),(fun h1 h2=>by simpa [updV] using hG.2.2.2.1 (by simpa using h1) (by simpa using h2)),(fun h1 h2=>by simpa [updV] using hG.2.2.2.2 (by simpa using h1) (by simpa using h2))⟩
    · intro l x u hG hno hli hpre hd K hK
      have e11:x 21= .pointer (some ⟨X2b,1,none⟩):=hd ⟨11, .data⟩ (by simp) rfl
      clear hd
      generalize x 21=z11 at e11 hK ⊢
      subst e11
      obtain⟨a0,a1,a2,a3,a4,b0,b1,b2,b3,b4⟩:=HS.out _ hG.1
      go_simp
      exact hK _ _ rfl (Below.refl _ _) ⟨hG.1,(fun h=>by simpa [updV] using hG.2.1 (by simpa using h)),(fun h=>by simpa [updV] using hG.2.2.1 (by simpa using h)),(fun h1 h2=>by simpa [updV] using hG.2.2.2.1 (by simpa using h1) (by simpa using h2)),(fun h1 h2=>by simpa [updV] using hG.2.2.2.2 (by simpa using h1) (by simpa using h2))⟩
    · intro l x u hG hno hli hpre hd K hK
      clear hd
      go_simp
      exact hK _ _ rfl (Below.refl _ _) ⟨hG.1,(fun h=>by simpa [updV] using hG.2.1 (by simpa using h)),(fun h=>by simpa [updV] using hG.2.2.1 (by simpa using h)),(fun h1 h2=>by simpa [updV] using hG.2.2.2.1 (by simpa using h1) (by simpa using h2)),(fun h1 h2=>by simpa [updV] using hG.2.2.2.2 (by simpa using h1) (by simpa using h2))⟩
    · intro l x u hG hno hli hpre hd K hK
      have e13:x 23= .pointer (some ⟨X2b,2,none⟩):=hd ⟨13, .data⟩ (by simp) rfl
      clear hd
      generalize x 23=z13 at e13 hK ⊢
      subst e13
      obtain⟨a0,a1,a2,a3,a4,b0,b1,b2,b3,b4⟩:=HS.out _ hG.1
      go_simp
      exact hK _ _ rfl (Below.refl _ _) ⟨hG.1,(fun h=>by simpa [updV] using hG.2.1 (by simpa using h)),(fun h=>by simpa [updV] using hG.2.2.1 (by simpa using h)),(fun h1 h2=>by simpa [updV] using hG.2.2.2.1 (by simpa using h1) (by simpa using h2)),(fun h1 h2=>by simpa [updV] using hG.2.2.2.2 (by simpa using h1) (by simpa using h2))⟩
    · intro l x u hG hno hli hpre hd K hK
      clear hd
      go_simp
      exact hK _ _ rfl (Below.refl _ _) ⟨hG.1,(fun h=>by simpa [updV] using hG.2.1 (by simpa using h)),(fun h=>by simpa [updV] using hG.2.2.1 (by simpa using h)),(fun h1 h2=>by simpa [updV] using hG.2.2.2.1 (by simpa using h1) (by simpa using h2)),(fun h1 h2=>by simpa [updV] using hG.2.2.2.2 (by simpa using h1) (by simpa using h2))⟩
    · intro l x u hG hno hli hpre hd K hK
      have e15:x 25= .pointer (some ⟨X2b,3,none⟩):=hd ⟨15, .data⟩ (by simp) rfl
      clear hd
      generalize x 25=z15 at e15 hK ⊢
      subst e15
      obtain⟨a0,a1,a2,a3,a4,b0,b1,b2,b3,b4⟩:=HS.out _ hG.1
      go_simp
      exact hK _ _ rfl (Below.refl _ _) ⟨hG.1,(fun h=>by simpa [updV] using hG.2.1 (by simpa using h)),(fun h=>by simpa [updV] using hG.2.2.1 (by simpa using h)),(fun h1 h2=>by simpa [updV] using hG.2.2.2.1 (by simpa using h1) (by simpa using h2)),(fun h1 h2=>by simpa [updV] using hG.2.2.2.2 (by simpa using h1) (by simpa using h2))⟩
    · intro l x u hG hno hli hpre hd K hK
      have e10:x 20= .int .i64 Y.a:=hd ⟨10, .data⟩ (by simp) rfl
      have e12:x 22= .int .i64 Y.b:=hd ⟨12, .data⟩ (by simp) rfl
      have e14:x 24= .int .i64 Y.c:=hd ⟨14, .data⟩ (by simp) rfl
      have e16:x 26= .int .i64 Y.d:=hd ⟨16, .data⟩ (by simp) rfl
      clear hd
      generalize x 20=z10 at e10 hK ⊢
      subst e10
      generalize x 22=z12 at e12 hK ⊢
      subst e12
      generalize x 24=z14 at e14 hK ⊢
      subst e14
      generalize x 26=z16 at e16 hK ⊢
      subst e16
      go_simp
      exact hK _ _ rfl (Below.refl _ _) ⟨hG.1,(fun h=>by simpa [updV] using hG.2.1 (by simpa using h)),(fun h=>by simpa [updV] using hG.2.2.1 (by simpa using h)),(fun h1 h2=>by simpa [updV] using hG.2.2.2.1 (by simpa using h1) (by simpa using h2)),(fun h1 h2=>by simpa [updV] using hG.2.2.2.2 (by simpa using h1) (by simpa using h2))⟩
    · intro l x u hG hno hli hpre hd K hK
      clear hd
      go_simp
      exact hK _ _ ⟨_,_,_,_,_,rfl,Blk.new _ _ _,hG.1.size⟩ ((Below.refl _ _).alloc (Nat.le_refl _) _) ⟨hG.1.alloc hG.1.size _,(fun _=>⟨u.heap.size,by simp[updV],by simp⟩),(fun h=>by obtain⟨q,e,hlt⟩:=hG.2.2.1 (by simpa using h);exact⟨q,by simpa [updV] using e,by simp;omega⟩),(fun h7 h8=>by obtain⟨q,e,hlt⟩:=hG.2.2.1 (by simpa using h8);intro h;simp[updV,e]at h;try omega),(fun h _=>by have:=hno 20 (by kernel_rfl);simp[this]at h)⟩
    · intro l x u hG hno hli hpre hd K hK
      clear hd
      go_simp
      exact hK _ _ ⟨_,_,_,_,_,rfl,Blk.new _ _ _,hG.1.size⟩ ((Below.refl _ _).alloc (Nat.le_refl _) _) ⟨hG.1.alloc hG.1.size _,(fun h=>by obtain⟨q,e,hlt⟩:=hG.2.1 (by simpa using h);exact⟨q,by simpa [updV] using e,by simp;omega⟩),(fun _=>⟨u.heap.size,by simp[updV],by simp⟩),(fun h7 h8=>by obtain⟨q,e,hlt⟩:=hG.2.1 (by simpa using h7);intro h;simp[updV,e]at h;try omega),(fun h _=>by have:=hno 20 (by kernel_rfl);simp[this]at h)⟩
    · intro l x u hG hno hli hpre hd K hK
      have e18:∃q y0 y1 y2 y3,x 5= .pointer (some ⟨q,0,none⟩)∧Blk u q [y0,y1,y2,y3] 135∧W.heap.size≤q:=hd ⟨18, .data⟩ (by simp) rfl
      have e8:x 18= .agg #[.int .i64 X.a, .int .i64 X.b, .int .i64 X.c, .int .i64 X.d]:=hd ⟨8, .data⟩ (by simp) rfl
      have e19:∃q y0 y1 y2 y3,x 6= .pointer (some ⟨q,0,none⟩)∧Blk u q [y0,y1,y2,y3] 135∧W.heap.size≤q:=hd ⟨19, .phase⟩ (by simp) rfl
      clear hd
      generalize x 18=z8 at e8 hK ⊢
      subst e8
      obtain⟨q,y0,y1,y2,y3,h7,hB7,hq⟩:=e18
      obtain⟨q8,w0,w1,w2,w3,h8,hB8,hq8⟩:=e19
      have hD:=hG.2.2.2.1 (hpre 18 (by kernel_rfl)) (hpre 19 (by kernel_rfl))
      rw[h7,h8]at hD
      have hne:q≠q8:=fun e=>hD (by rw[e])
      generalize k7:x 5=z7 at h7 hK ⊢
      subst h7
      obtain⟨c0,c1,c2,c3,cf⟩:=hB7.four
      have H8:=Lib.hid h8
      have K7:=Lib.hid k7
      clear h8 k7
      go_simp
      have h8:=H8.out
      have k7:=K7.out
      exact hK undef _ ⟨q8,h8⟩ ⟨q,_,_,_,_,rfl⟩ ⟨below_set4 hG.1 hq _ _ _ _,(fun _=>⟨q,k7,by simpa [World.setCell] using hB7.lt⟩),(fun h=>by obtain⟨q,e,hlt⟩:=hG.2.2.1 (by simpa using h);exact⟨q,e,by simpa [World.setCell] using hlt⟩),(fun _ _=>by show x 5≠x 6;rw[k7,h8];intro h;cases h;exact hne rfl),fun _ _=>⟨q,q8,w0,w1,w2,w3,k7,h8,hne,hq,hq8,hB7.set4 _ _ _ _,hB8.set4_other hne _ _ _ _⟩⟩
    · intro l x u hG hno hli hpre hd K hK
      have e19:∃q y0 y1 y2 y3,x 6= .pointer (some ⟨q,0,none⟩)∧Blk u q [y0,y1,y2,y3] 135∧W.heap.size≤q:=hd ⟨19, .data⟩ (by simp) rfl
      have e17:x 27= .agg #[.int .i64 Y.a, .int .i64 Y.b, .int .i64 Y.c, .int .i64 Y.d]:=hd ⟨17, .data⟩ (by simp) rfl
      have e18:∃q y0 y1 y2 y3,x 5= .pointer (some ⟨q,0,none⟩)∧Blk u q [y0,y1,y2,y3] 135∧W.heap.size≤q:=hd ⟨18, .phase⟩ (by simp) rfl
      clear hd
      generalize x 27=z17 at e17 hK ⊢
      subst e17
      obtain⟨q,q8,y0,y1,y2,y3,h7,h8,hne,hq,hq8,hB7,hB8⟩:=hG.2.2.2.2 (hpre 20 (by kernel_rfl)) hli
      generalize k8:x 6=z8 at h8 hK ⊢
      subst h8
      obtain⟨c0,c1,c2,c3,cf⟩:=hB8.four
      have H7:=Lib.hid h7
      have K8:=Lib.hid k8
      clear h7 k8
      go_simp
      have h7:=H7.out
      have k8:=K8.out
      exact hK undef _ ⟨q,q8,h7,k8,hne,hq,hq8,hB7.set4_other (fun e=>hne e.symm) _ _ _ _,hB8.set4 _ _ _ _⟩ ⟨q8,_,_,_,_,rfl⟩ ⟨below_set4 hG.1 hq8 _ _ _ _,(fun h=>by obtain⟨q,e,hlt⟩:=hG.2.1 (by simpa using h);exact⟨q,e,by simpa [World.setCell] using hlt⟩),(fun _=>⟨q8,k8,by simpa [World.setCell] using hB8.lt⟩),(fun _ _=>by show x 5≠x 6;rw[h7,k8];intro h;cases h;exact hne rfl),fun _ h=>by simp at h⟩
  case hend =>
    rintro l x u hall hG ⟨_,_,_,_,_,_,_,_,_,_,_,_,_,_,_,_,_,_,_,_,_,⟨q,q8,h7,h8,hne,hq,hq8,hB7,hB8⟩,_⟩
    have hBu:=hG.1
    clear hall hG
    generalize x 5=z7 at h7 ⊢
    subst h7
    generalize x 6=z8 at h8 ⊢
    subst h8
    obtain⟨av,hav⟩:∃av:List Int,av=[X.a,X.b,X.c,X.d]:=⟨_,rfl⟩
    obtain⟨bv,hbv⟩:∃bv:List Int,bv=[Y.a,Y.b,Y.c,Y.d]:=⟨_,rfl⟩
    have HA:Aside (Blk u q (av.map int1) 135):=by rw[hav];exact hB7
    have HBB:Aside (Blk u q8 (bv.map int1) 135):=by rw[hbv];exact hB8
    have HBD:=mac_bounds X.a X.b X.c X.d Y.a Y.b Y.c Y.d HPP.out
    rw[←hav,←hbv]at HBD
    have HBD:=Lib.hid HBD
    have HAV:Aside (av.length=4∧bv.length=4):=by rw[hav,hbv];exact⟨rfl,rfl⟩
    have HMM:Aside (∀i k:Nat,i<4→k<4→-1152921504606846976≤av.getD i 0*bv.getD k 0∧av.getD i 0*bv.getD k 0≤1152921504606846976):=fun i k hi hk=>HPP.out _ (by rw[←hav];exact getD_mem (by rw[HAV.out.1];exact hi)) _ (by rw[←hbv];exact getD_mem (by rw[HAV.out.2];exact hk))
    have HAE:Aside (av=[X.a,X.b,X.c,X.d]∧bv=[Y.a,Y.b,Y.c,Y.d]):=⟨hav,hbv⟩
    obtain⟨W2,hW2⟩:∃W2,W2=u.alloc (.cells #[.int .i64 0, .int .i64 0, .int .i64 0, .int .i64 0] 135):=⟨_,rfl⟩
    have hO:Blk W2 u.heap.size ([0,0,0,0].map int1) 135:=by rw[hW2];exact Blk.new _ _ _
    have hB2:Below W.heap.size W W2:=by rw[hW2];exact hBu.alloc hBu.size _
    have hu2:Below u.heap.size u W2:=by rw[hW2];exact(Below.refl _ _).alloc (Nat.le_refl _) _
    have HO:=Lib.hid hO
    have HB2W:=Lib.hid hB2
    have HA2:=Lib.hid (HA.out.below hu2)
    have HBB2:=Lib.hid (HBB.out.below hu2)
    have HLT:Aside (q<u.heap.size∧q8<u.heap.size∧W.heap.size≤u.heap.size):=⟨hB7.lt,hB8.lt,hBu.size⟩
    have HW2:=Lib.hid hW2
    generalize hob:u.heap.size=ob at HO HLT
    have HOB:=Lib.hid hob
    clear hq hq8 hne hB7 hB8 hBu hav hbv hO hB2 hu2 hW2
    generalize x=xx0
    go_wp2_with fail
    try rw[hob]
    rw[←HW2.out]
    clear hob
    go_loopg [8] 4 (fun gg s8 wr=>∃i:Nat,i≤4∧4-i≤gg∧s8= .int .i64 i∧Aside (Touch [ob] W2 wr)∧Aside (Blk wr ob ((macA av bv i [0,0,0,0]).map int1) 135))
    case atStart=>exact⟨0,by omega,by omega,rfl,Touch.refl _ _,HO.out⟩
    case round=>
      obtain⟨i,hi,hg,rfl,hT,hO⟩:=hrel
      by_cases hlt:i<4
      case pos=>
        have hltz:(i:Int)<4:=by omega
        go_wp2_with fail
        go_loopg [9] 4 (fun gg s9 wr=>∃k:Nat,k≤4∧4-k≤gg∧s9= .int .i64 k∧Aside (Touch [ob] W2 wr)∧Aside (Blk wr ob ((macI av bv i k (macA av bv i [0,0,0,0])).map int1) 135))
        case atStart=>exact⟨0,by omega,by omega,rfl,hT.out,hO.out⟩
        case round=>
          obtain⟨k,hk,hg2,rfl,hT2,hO2⟩:=hrel
          by_cases hlt2:k<4
          case pos=>
            have hltz2:(k:Int)<4:=by omega
            have hbd:=HBD.out i k hlt hlt2
            have hpr:=HMM.out i k hlt hlt2
            obtain⟨jj,hjj⟩:∃jj,jj=(i+k)%4:=⟨_,rfl⟩
            have hj4:jj<4:=by omega
            rw[←hjj]at hbd
            generalize hoo:macI av bv i k (macA av bv i [0,0,0,0])=oo at *
            have hol:jj<oo.length:=by omega
            have hoj:=getD_of hol 0
            have HMAC:Aside (mac av bv i k oo=oo.set jj (oo.getD jj 0+(if 4≤i+k then -(av.getD i 0*bv.getD k 0) else av.getD i 0*bv.getD k 0))):=by
              show _=_
              rw[hjj]
              rfl
            have m1:=(HA2.out.touch hT2.out (by have:=HLT.out;simp;omega)).cell i (.int .i64 (av.getD i 0)) (by rw[List.getElem?_map,getD_of (l:=av) (by rw[HAV.out.1];exact hlt) 0];rfl)
            have m2:=(HBB2.out.touch hT2.out (by have:=HLT.out;simp;omega)).cell k (.int .i64 (bv.getD k 0)) (by rw[List.getElem?_map,getD_of (l:=bv) (by rw[HAV.out.2];exact hlt2) 0];rfl)
            have n1:=hO2.out.cell jj (.int .i64 (oo.getD jj 0)) (by rw[List.getElem?_map,hoj];rfl)
            have nf:=hO2.out.free jj
            have hbd2:=hbd.2
            generalize av.getD i 0=ai at *
            generalize bv.getD k 0=bk at *
            generalize oo.getD jj 0=oj at *
            obtain⟨pr,hprd⟩:∃pr,pr=ai*bk:=⟨_,rfl⟩
            rw[←hprd]at hpr
            have hw2:IntKind.i64.wrap (ai*bk)=pr:=by rw[←hprd];exact IntWalk.i64_in _ (by omega)
            have hwik:IntKind.i64.wrap ((i:Int)+(k:Int))=(i:Int)+(k:Int):=IntWalk.i64_in _ (by omega)
            have HPR:Aside (ai*bk=pr):=hprd.symm
            have HOO:=Lib.hid hoo
            have HNN:Aside (wr.cell? ⟨ob,jj,none⟩=some (.int .i64 oj)∧wr.cell? ⟨q,i,none⟩=some (.int .i64 ai)∧wr.cell? ⟨q8,k,none⟩=some (.int .i64 bk)):=⟨n1,m1,m2⟩
            clear hbd hol hoj hprd hoo
            by_cases h4:i+k<4
            case pos=>
              have h4z:(i:Int)+(k:Int)<4:=by omega
              have hj:(i:Int)+(k:Int)=(jj:Int):=by omega
              have hj4z:(jj:Int)<4:=by omega
              clear hjj h4z
              have hwjj:IntKind.i64.wrap ((jj:Nat):Int)=(jj:Int):=IntWalk.i64_in _ (by omega)
              have HM2:Aside (mac av bv i k oo=oo.set jj (oj+pr)):=by
                show _=_
                rw[HMAC.out,if_neg (by omega),HPR.out]
              have hw4:IntKind.i64.wrap (oj+pr)=oj+pr:=IntWalk.i64_in _ (by omega)
              go_upto_region 10 with fail
              refine wp_region_steps (by kernel_rfl) (fun x=>{tmps:=#[numV X,numV Y, .pointer (some ⟨w.heap.size,0,none⟩), .pointer (some ⟨X2b,0,none⟩), .pointer (some ⟨X3b,0,none⟩), .pointer (some ⟨q,0,none⟩), .pointer (some ⟨q8,0,none⟩), .pointer (some ⟨ob,0,none⟩), .int .i64 ↑i, .int .i64 ↑k,xx0 10,xx0 11,xx0 12,xx0 13,xx0 14,xx0 15,xx0 16,xx0 17,xx0 18,xx0 19,xx0 20,xx0 21,xx0 22,xx0 23,xx0 24,xx0 25,xx0 26,xx0 27, .int .i64 ↑i, .bool true,u30,u31, .int .i64 ↑k, .bool true,u34,u35, .int .i64 ↑i, .int .i64 ↑k, .int .i64 ↑jj, .bool true,x 40,x 41,x 42,x 43,x 44,x 45,x 46,x 47,x 48,x 49,x 50,x 51,x 52,x 53,u54,u55,u56,u57,u58,u59,u60,u61,u62,u63,u64,u65,u66,u67,u68,undef,undef,undef,undef,undef,undef,undef,undef,undef,undef,undef,undef,undef,undef,undef],defers:=[]}) (fun j=>match j with|40=>u40|41=>u41|42=>u42|43=>u43|44=>u44|45=>u45|46=>u46|47=>u47|48=>u48|49=>u49|50=>u50|51=>u51|52=>u52|53=>u53|_=>undef) rfl (fun l u=>(l 14=true→u=(wr.drew.setCell ⟨ob,jj,none⟩ (.int .i64 (oj+pr))))∧(l 14=false→u=wr.drew)) (fun i u u'=>True) (fun j=>match j with|0=>[40]|1=>[41]|2=>[42]|3=>[43]|4=>[44]|5=>[45]|6=>[46]|7=>[47]|8=>[48]|9=>[49]|10=>[50]|11=>[51]|12=>[52]|13=>[53]|14=>[]|_=>[]) (fun j x u=>match j with|0=>x 40= .int .i64 ↑i|1=>x 41= .int .i64 ↑k|2=>x 42= .int .i64 ↑jj|3=>x 43= .pointer (some ⟨ob,jj,none⟩)|4=>x 44= .int .i64 oj|5=>x 45= .int .i64 ↑i|6=>x 46= .pointer (some ⟨q,i,none⟩)|7=>x 47= .int .i64 ai|8=>x 48= .int .i64 ↑k|9=>x 49= .pointer (some ⟨q8,k,none⟩)|10=>x 50= .int .i64 bk|11=>x 51= .int .i64 pr|12=>x 52= .int .i64 (oj+pr)|13=>x 53= .pointer (some ⟨ob,jj,none⟩)|14=>True|_=>True) (by kernel_rfl) ?hput (by kernel_rfl) (by kernel_rfl) ?h0 ?hkeep ?hloc ?hstep ?hend
              case hput=>exact⟨(fun d hd x v=>by cases hd;rfl),(fun d hd x v=>by cases hd;rfl),(fun d hd x v=>by cases hd;rfl),(fun d hd x v=>by cases hd;rfl),(fun d hd x v=>by cases hd;rfl),(fun d hd x v=>by cases hd;rfl),(fun d hd x v=>by cases hd;rfl),(fun d hd x v=>by cases hd;rfl),(fun d hd x v=>by cases hd;rfl),(fun d hd x v=>by cases hd;rfl),(fun d hd x v=>by cases hd;rfl),(fun d hd x v=>by cases hd;rfl),(fun d hd x v=>by cases hd;rfl),(fun d hd x v=>by cases hd;rfl),(fun d hd x v=>by cases hd),trivial⟩
              case h0=>exact⟨(fun h=>by cases h),fun _=>rfl⟩
              case hkeep=>
                intro j i x l u u' hj hi hpre ht hG hR
                exact ht
              case hloc=>exact⟨(fun x x' u h ht=>by have h40:=h 40 (by simp);simp only[h40]at ht;exact ht),(fun x x' u h ht=>by have h41:=h 41 (by simp);simp only[h41]at ht;exact ht),(fun x x' u h ht=>by have h42:=h 42 (by simp);simp only[h42]at ht;exact ht),(fun x x' u h ht=>by have h43:=h 43 (by simp);simp only[h43]at ht;exact ht),(fun x x' u h ht=>by have h44:=h 44 (by simp);simp only[h44]at ht;exact ht),(fun x x' u h ht=>by have h45:=h 45 (by simp);simp only[h45]at ht;exact ht),(fun x x' u h ht=>by have h46:=h 46 (by simp);simp only[h46]at ht;exact ht),(fun x x' u h ht=>by have h47:=h 47 (by simp);simp only[h47]at ht;exact ht),(fun x x' u h ht=>by have h48:=h 48 (by simp);simp only[h48]at ht;exact ht),(fun x x' u h ht=>by have h49:=h 49 (by simp);simp only[h49]at ht;exact ht),(fun x x' u h ht=>by have h50:=h 50 (by simp);simp only[h50]at ht;exact ht),(fun x x' u h ht=>by have h51:=h 51 (by simp);simp only[h51]at ht;exact ht),(fun x x' u h ht=>by have h52:=h 52 (by simp);simp only[h52]at ht;exact ht),(fun x x' u h ht=>by have h53:=h 53 (by simp);simp only[h53]at ht;exact ht),(fun x x' u h ht=>ht),trivial⟩
              case hstep=>
                refine⟨?_,?_,?_,?_,?_,?_,?_,?_,?_,?_,?_,?_,?_,?_,?_,trivial⟩
                · intro l x u hG hno hli hpre hd K hK
                  clear hd
                  go_simp
                  exact hK _ _ rfl trivial ⟨fun h=>hG.1 (by simpa using h),fun h=>hG.2 (by simpa using h)⟩
                · intro l x u hG hno hli hpre hd K hK
                  clear hd
                  go_simp
                  exact hK _ _ rfl trivial ⟨fun h=>hG.1 (by simpa using h),fun h=>hG.2 (by simpa using h)⟩
                · intro l x u hG hno hli hpre hd K hK
                  have e0:x 40= .int .i64 ↑i:=hd ⟨0, .data⟩ (by simp) rfl
                  have e1:x 41= .int .i64 ↑k:=hd ⟨1, .data⟩ (by simp) rfl
                  clear hd
                  generalize x 40=z0 at e0 hK ⊢
                  subst e0
                  generalize x 41=z1 at e1 hK ⊢
                  subst e1
                  go_simp
                  exact hK _ _ rfl trivial ⟨fun h=>hG.1 (by simpa using h),fun h=>hG.2 (by simpa using h)⟩
                · intro l x u hG hno hli hpre hd K hK
                  have e2:x 42= .int .i64 ↑jj:=hd ⟨2, .data⟩ (by simp) rfl
                  clear hd
                  generalize x 42=z2 at e2 hK ⊢
                  subst e2
                  go_simp
                  exact hK _ _ rfl trivial ⟨fun h=>hG.1 (by simpa using h),fun h=>hG.2 (by simpa using h)⟩
                · intro l x u hG hno hli hpre hd K hK
                  have e3:x 43= .pointer (some ⟨ob,jj,none⟩):=hd ⟨3, .data⟩ (by simp) rfl
                  clear hd
                  generalize x 43=z3 at e3 hK ⊢
                  subst e3
                  obtain rfl:=hG.2 (hno 14 (by kernel_rfl))
                  go_simp
                  exact hK _ _ rfl trivial ⟨fun h=>hG.1 (by simpa using h),fun h=>hG.2 (by simpa using h)⟩
                · intro l x u hG hno hli hpre hd K hK
                  clear hd
                  go_simp
                  exact hK _ _ rfl trivial ⟨fun h=>hG.1 (by simpa using h),fun h=>hG.2 (by simpa using h)⟩
                · intro l x u hG hno hli hpre hd K hK
                  have e5:x 45= .int .i64 ↑i:=hd ⟨5, .data⟩ (by simp) rfl
                  clear hd
                  generalize x 45=z5 at e5 hK ⊢
                  subst e5
                  go_simp
                  exact hK _ _ rfl trivial ⟨fun h=>hG.1 (by simpa using h),fun h=>hG.2 (by simpa using h)⟩
                · intro l x u hG hno hli hpre hd K hK
                  have e6:x 46= .pointer (some ⟨q,i,none⟩):=hd ⟨6, .data⟩ (by simp) rfl
                  clear hd
                  generalize x 46=z6 at e6 hK ⊢
                  subst e6
                  obtain rfl:=hG.2 (hno 14 (by kernel_rfl))
                  go_simp
                  exact hK _ _ rfl trivial ⟨fun h=>hG.1 (by simpa using h),fun h=>hG.2 (by simpa using h)⟩
                · intro l x u hG hno hli hpre hd K hK
                  clear hd
                  go_simp
                  exact hK _ _ rfl trivial ⟨fun h=>hG.1 (by simpa using h),fun h=>hG.2 (by simpa using h)⟩
                · intro l x u hG hno hli hpre hd K hK
                  have e8:x 48= .int .i64 ↑k:=hd ⟨8, .data⟩ (by simp) rfl
                  clear hd
                  generalize x 48=z8 at e8 hK ⊢
                  subst e8
                  go_simp
                  exact hK _ _ rfl trivial ⟨fun h=>hG.1 (by simpa using h),fun h=>hG.2 (by simpa using h)⟩
                · intro l x u hG hno hli hpre hd K hK
                  have e9:x 49= .pointer (some ⟨q8,k,none⟩):=hd ⟨9, .data⟩ (by simp) rfl
                  clear hd
                  generalize x 49=z9 at e9 hK ⊢
                  subst e9
                  obtain rfl:=hG.2 (hno 14 (by kernel_rfl))
                  go_simp
                  exact hK _ _ rfl trivial ⟨fun h=>hG.1 (by simpa using h),fun h=>hG.2 (by simpa using h)⟩
                · intro l x u hG hno hli hpre hd K hK
                  have e7:x 47= .int .i64 ai:=hd ⟨7, .data⟩ (by simp) rfl
                  have e10:x 50= .int .i64 bk:=hd ⟨10, .data⟩ (by simp) rfl
                  clear hd
                  generalize x 47=z7 at e7 hK ⊢
                  subst e7
                  generalize x 50=z10 at e10 hK ⊢
                  subst e10
                  go_simp
                  exact hK _ _ rfl trivial ⟨fun h=>hG.1 (by simpa using h),fun h=>hG.2 (by simpa using h)⟩
                · intro l x u hG hno hli hpre hd K hK
                  have e4:x 44= .int .i64 oj:=hd ⟨4, .data⟩ (by simp) rfl
                  have e11:x 51= .int .i64 pr:=hd ⟨11, .data⟩ (by simp) rfl
                  clear hd
                  generalize x 44=z4 at e4 hK ⊢
                  subst e4
                  generalize x 51=z11 at e11 hK ⊢
                  subst e11
                  go_simp
                  exact hK _ _ rfl trivial ⟨fun h=>hG.1 (by simpa using h),fun h=>hG.2 (by simpa using h)⟩
                · intro l x u hG hno hli hpre hd K hK
                  have e2:x 42= .int .i64 ↑jj:=hd ⟨2, .data⟩ (by simp) rfl
                  clear hd
                  generalize x 42=z2 at e2 hK ⊢
                  subst e2
                  go_simp
                  exact hK _ _ rfl trivial ⟨fun h=>hG.1 (by simpa using h),fun h=>hG.2 (by simpa using h)⟩
                · intro l x u hG hno hli hpre hd K hK
                  have e13:x 53= .pointer (some ⟨ob,jj,none⟩):=hd ⟨13, .data⟩ (by simp) rfl
                  have e12:x 52= .int .i64 (oj+pr):=hd ⟨12, .data⟩ (by simp) rfl
                  clear hd
                  generalize x 53=z13 at e13 hK ⊢
                  subst e13
                  generalize x 52=z12 at e12 hK ⊢
                  subst e12
                  obtain rfl:=hG.2 hli
                  go_simp
                  exact hK undef _ trivial trivial ⟨fun _=>rfl,fun h=>by simp at h⟩
              case hend=>
                intro l x9 u hall hG ht
                obtain rfl:=hG.1 (hall 14 (by decide))
                clear ht hall hG
                have HTz:Aside (Touch [ob] W2 (wr.drew.setCell ⟨ob,jj,none⟩ (.int .i64 (oj+pr)))):=hT2.out.drew.trans (Touch.set1 _ _ _ _) (fun x hx=> .inl hx)
                have HOz:=mac_put HOO.out (hO2.out.drew) HM2.out
                go_wp2_with fail
                go_roundg (4-(k+1))
                case measure=>omega
                case rel=>exact⟨k+1,by omega,Nat.le_refl _,(by go_simp<;>first|exact IntWalk.i64_in _ (by omega)|(clear hwi;go_num)),HTz.out,HOz.out⟩
            case neg=>
              have h4z:¬(i:Int)+(k:Int)<4:=by omega
              have hj:(i:Int)+(k:Int)-4=(jj:Int):=by omega
              have hj4z:(jj:Int)<4:=by omega
              clear hjj
              have hwjj:IntKind.i64.wrap ((jj:Nat):Int)=(jj:Int):=IntWalk.i64_in _ (by omega)
              have hwj:IntKind.i64.wrap ((i:Int)+(k:Int)-4)=(jj:Int):=by rw[hj];exact IntWalk.i64_in _ (by omega)
              have HM2:Aside (mac av bv i k oo=oo.set jj (oj-pr)):=by
                show _=_
                rw[HMAC.out,if_pos (by omega),HPR.out]
                rfl
              have hw4:IntKind.i64.wrap (oj-pr)=oj-pr:=IntWalk.i64_in _ (by omega)
              go_upto_region 11 with fail
              refine wp_region_steps (by kernel_rfl) (fun x=>{tmps:=#[numV X,numV Y, .pointer (some ⟨w.heap.size,0,none⟩), .pointer (some ⟨X2b,0,none⟩), .pointer (some ⟨X3b,0,none⟩), .pointer (some ⟨q,0,none⟩), .pointer (some ⟨q8,0,none⟩), .pointer (some ⟨ob,0,none⟩), .int .i64 ↑i, .int .i64 ↑k,xx0 10,xx0 11,xx0 12,xx0 13,xx0 14,xx0 15,xx0 16,xx0 17,xx0 18,xx0 19,xx0 20,xx0 21,xx0 22,xx0 23,xx0 24,xx0 25,xx0 26,xx0 27, .int .i64 ↑i, .bool true,u30,u31, .int .i64 ↑k, .bool true,u34,u35, .int .i64 ↑i, .int .i64 ↑k, .int .i64 (↑i+ ↑k), .bool false,u40,u41,u42,u43,u44,u45,u46,u47,u48,u49,u50,u51,u52,u53,x 54,x 55,x 56,x 57,x 58,x 59,x 60,x 61,x 62,x 63,x 64,x 65,x 66,x 67,x 68,undef,undef,undef,undef,undef,undef,undef,undef,undef,undef,undef,undef,undef,undef,undef],defers:=[]}) (fun j=>match j with|54=>u54|55=>u55|56=>u56|57=>u57|58=>u58|59=>u59|60=>u60|61=>u61|62=>u62|63=>u63|64=>u64|65=>u65|66=>u66|67=>u67|68=>u68|_=>undef) rfl (fun l u=>(l 15=true→u=(wr.drew.setCell ⟨ob,jj,none⟩ (.int .i64 (oj-pr))))∧(l 15=false→u=wr.drew)) (fun i u u'=>True) (fun j=>match j with|0=>[54]|1=>[55]|2=>[56]|3=>[57]|4=>[58]|5=>[59]|6=>[60]|7=>[61]|8=>[62]|9=>[63]|10=>[64]|11=>[65]|12=>[66]|13=>[67]|14=>[68]|15=>[]|_=>[]) (fun j x u=>match j with|0=>x 54= .int .i64 ↑i|1=>x 55= .int .i64 ↑k|2=>x 56= .int .i64 (↑i+ ↑k)|3=>x 57= .int .i64 ↑jj|4=>x 58= .pointer (some ⟨ob,jj,none⟩)|5=>x 59= .int .i64 oj|6=>x 60= .int .i64 ↑i|7=>x 61= .pointer (some ⟨q,i,none⟩)|8=>x 62= .int .i64 ai|9=>x 63= .int .i64 ↑k|10=>x 64= .pointer (some ⟨q8,k,none⟩)|11=>x 65= .int .i64 bk|12=>x 66= .int .i64 pr|13=>x 67= .int .i64 (oj-pr)|14=>x 68= .pointer (some ⟨ob,jj,none⟩)|15=>True|_=>True) (by kernel_rfl) ?hput (by kernel_rfl) (by kernel_rfl) ?h0 ?hkeep ?hloc ?hstep ?hend
              case hput=>exact⟨(fun d hd x v=>by cases hd;rfl),(fun d hd x v=>by cases hd;rfl),(fun d hd x v=>by cases hd;rfl),(fun d hd x v=>by cases hd;rfl),(fun d hd x v=>by cases hd;rfl),(fun d hd x v=>by cases hd;rfl),(fun d hd x v=>by cases hd;rfl),(fun d hd x v=>by cases hd;rfl),(fun d hd x v=>by cases hd;rfl),(fun d hd x v=>by cases hd;rfl),(fun d hd x v=>by cases hd;rfl),(fun d hd x v=>by cases hd;rfl),(fun d hd x v=>by cases hd;rfl),(fun d hd x v=>by cases hd;rfl),(fun d hd x v=>by cases hd;rfl),(fun d hd x v=>by cases hd),trivial⟩
              case h0=>exact⟨(fun h=>by cases h),fun _=>rfl⟩
              case hkeep=>
                intro j i x l u u' hj hi hpre ht hG hR
                exact ht
              case hloc=>exact⟨(fun x x' u h ht=>by have h54:=h 54 (by simp);simp only[h54]at ht;exact ht),(fun x x' u h ht=>by have h55:=h 55 (by simp);simp only[h55]at ht;exact ht),(fun x x' u h ht=>by have h56:=h 56 (by simp);simp only[h56]at ht;exact ht),(fun x x' u h ht=>by have h57:=h 57 (by simp);simp only[h57]at ht;exact ht),(fun x x' u h ht=>by have h58:=h 58 (by simp);simp only[h58]at ht;exact ht),(fun x x' u h ht=>by have h59:=h 59 (by simp);simp only[h59]at ht;exact ht),(fun x x' u h ht=>by have h60:=h 60 (by simp);simp only[h60]at ht;exact ht),(fun x x' u h ht=>by have h61:=h 61 (by simp);simp only[h61]at ht;exact ht),(fun x x' u h ht=>by have h62:=h 62 (by simp);simp only[h62]at ht;exact ht),(fun x x' u h ht=>by have h63:=h 63 (by simp);simp only[h63]at ht;exact ht),(fun x x' u h ht=>by have h64:=h 64 (by simp);simp only[h64]at ht;exact ht),(fun x x' u h ht=>by have h65:=h 65 (by simp);simp only[h65]at ht;exact ht),(fun x x' u h ht=>by have h66:=h 66 (by simp);simp only[h66]at ht;exact ht),(fun x x' u h ht=>by have h67:=h 67 (by simp);simp only[h67]at ht;exact ht),(fun x x' u h ht=>by have h68:=h 68 (by simp);simp only[h68]at ht;exact ht),(fun x x' u h ht=>ht),trivial⟩
              case hstep=>
                refine⟨?_,?_,?_,?_,?_,?_,?_,?_,?_,?_,?_,?_,?_,?_,?_,?_,trivial⟩
                · intro l x u hG hno hli hpre hd K hK
                  clear hd
                  go_simp
                  exact hK _ _ rfl trivial ⟨fun h=>hG.1 (by simpa using h),fun h=>hG.2 (by simpa using h)⟩
                · intro l x u hG hno hli hpre hd K hK
                  clear hd
                  go_simp
                  exact hK _ _ rfl trivial ⟨fun h=>hG.1 (by simpa using h),fun h=>hG.2 (by simpa using h)⟩
                · intro l x u hG hno hli hpre hd K hK
                  have e0:x 54= .int .i64 ↑i:=hd ⟨0, .data⟩ (by simp) rfl
                  have e1:x 55= .int .i64 ↑k:=hd ⟨1, .data⟩ (by simp) rfl
                  clear hd
                  generalize x 54=z0 at e0 hK ⊢
                  subst e0
                  generalize x 55=z1 at e1 hK ⊢
                  subst e1
                  go_simp
                  exact hK _ _ rfl trivial ⟨fun h=>hG.1 (by simpa using h),fun h=>hG.2 (by simpa using h)⟩
                · intro l x u hG hno hli hpre hd K hK
                  have e2:x 56= .int .i64 (↑i+ ↑k):=hd ⟨2, .data⟩ (by simp) rfl
                  clear hd
                  generalize x 56=z2 at e2 hK ⊢
                  subst e2
                  go_simp
                  exact hK _ _ rfl trivial ⟨fun h=>hG.1 (by simpa using h),fun h=>hG.2 (by simpa using h)⟩
                · intro l x u hG hno hli hpre hd K hK
                  have e3:x 57= .int .i64 ↑jj:=hd ⟨3, .data⟩ (by simp) rfl
                  clear hd
                  generalize x 57=z3 at e3 hK ⊢
                  subst e3
                  go_simp
                  exact hK _ _ rfl trivial ⟨fun h=>hG.1 (by simpa using h),fun h=>hG.2 (by simpa using h)⟩
                · intro l x u hG hno hli hpre hd K hK
                  have e4:x 58= .pointer (some ⟨ob,jj,none⟩):=hd ⟨4, .data⟩ (by simp) rfl
                  clear hd
                  generalize x 58=z4 at e4 hK ⊢
                  subst e4
                  obtain rfl:=hG.2 (hno 15 (by kernel_rfl))
                  go_simp
                  exact hK _ _ rfl trivial ⟨fun h=>hG.1 (by simpa using h),fun h=>hG.2 (by simpa using h)⟩
                · intro l x u hG hno hli hpre hd K hK
                  clear hd
                  go_simp
                  exact hK _ _ rfl trivial ⟨fun h=>hG.1 (by simpa using h),fun h=>hG.2 (by simpa using h)⟩
                · intro l x u hG hno hli hpre hd K hK
                  have e6:x 60= .int .i64 ↑i:=hd ⟨6, .data⟩ (by simp) rfl
                  clear hd
                  generalize x 60=z6 at e6 hK ⊢
                  subst e6
                  go_simp
                  exact hK _ _ rfl trivial ⟨fun h=>hG.1 (by simpa using h),fun h=>hG.2 (by simpa using h)⟩
                · intro l x u hG hno hli hpre hd K hK
                  have e7:x 61= .pointer (some ⟨q,i,none⟩):=hd ⟨7, .data⟩ (by simp) rfl
                  clear hd
                  generalize x 61=z7 at e7 hK ⊢
                  subst e7
                  obtain rfl:=hG.2 (hno 15 (by kernel_rfl))
                  go_simp
                  exact hK _ _ rfl trivial ⟨fun h=>hG.1 (by simpa using h),fun h=>hG.2 (by simpa using h)⟩
                · intro l x u hG hno hli hpre hd K hK
                  clear hd
                  go_simp
                  exact hK _ _ rfl trivial ⟨fun h=>hG.1 (by simpa using h),fun h=>hG.2 (by simpa using h)⟩
                · intro l x u hG hno hli hpre hd K hK
                  have e9:x 63= .int .i64 ↑k:=hd ⟨9, .data⟩ (by simp) rfl
                  clear hd
                  generalize x 63=z9 at e9 hK ⊢
                  subst e9
                  go_simp
                  exact hK _ _ rfl trivial ⟨fun h=>hG.1 (by simpa using h),fun h=>hG.2 (by simpa using h)⟩
                · intro l x u hG hno hli hpre hd K hK
                  have e10:x 64= .pointer (some ⟨q8,k,none⟩):=hd ⟨10, .data⟩ (by simp) rfl
                  clear hd
                  generalize x 64=z10 at e10 hK ⊢
                  subst e10
                  obtain rfl:=hG.2 (hno 15 (by kernel_rfl))
                  go_simp
                  exact hK _ _ rfl trivial ⟨fun h=>hG.1 (by simpa using h),fun h=>hG.2 (by simpa using h)⟩
                · intro l x u hG hno hli hpre hd K hK
                  have e8:x 62= .int .i64 ai:=hd ⟨8, .data⟩ (by simp) rfl
                  have e11:x 65= .int .i64 bk:=hd ⟨11, .data⟩ (by simp) rfl
                  clear hd
                  generalize x 62=z8 at e8 hK ⊢
                  subst e8
                  generalize x 65=z11 at e11 hK ⊢
                  subst e11
                  go_simp
                  exact hK _ _ rfl trivial ⟨fun h=>hG.1 (by simpa using h),fun h=>hG.2 (by simpa using h)⟩
                · intro l x u hG hno hli hpre hd K hK
                  have e5:x 59= .int .i64 oj:=hd ⟨5, .data⟩ (by simp) rfl
                  have e12:x 66= .int .i64 pr:=hd ⟨12, .data⟩ (by simp) rfl
                  clear hd
                  generalize x 59=z5 at e5 hK ⊢
                  subst e5
                  generalize x 66=z12 at e12 hK ⊢
                  subst e12
                  go_simp
                  exact hK _ _ rfl trivial ⟨fun h=>hG.1 (by simpa using h),fun h=>hG.2 (by simpa using h)⟩
                · intro l x u hG hno hli hpre hd K hK
                  have e3:x 57= .int .i64 ↑jj:=hd ⟨3, .data⟩ (by simp) rfl
                  clear hd
                  generalize x 57=z3 at e3 hK ⊢
                  subst e3
                  go_simp
                  exact hK _ _ rfl trivial ⟨fun h=>hG.1 (by simpa using h),fun h=>hG.2 (by simpa using h)⟩
                · intro l x u hG hno hli hpre hd K hK
                  have e14:x 68= .pointer (some ⟨ob,jj,none⟩):=hd ⟨14, .data⟩ (by simp) rfl
                  have e13:x 67= .int .i64 (oj-pr):=hd ⟨13, .data⟩ (by simp) rfl
                  clear hd
                  generalize x 68=z14 at e14 hK ⊢
                  subst e14
                  generalize x 67=z13 at e13 hK ⊢
                  subst e13
                  obtain rfl:=hG.2 hli
                  go_simp
                  exact hK undef _ trivial trivial ⟨fun _=>rfl,fun h=>by simp at h⟩
              case hend=>
                intro l x9 u hall hG ht
                obtain rfl:=hG.1 (hall 15 (by decide))
                clear ht hall hG
                have HTz:Aside (Touch [ob] W2 (wr.drew.setCell ⟨ob,jj,none⟩ (.int .i64 (oj-pr)))):=hT2.out.drew.trans (Touch.set1 _ _ _ _) (fun x hx=> .inl hx)
                have HOz:=mac_put HOO.out (hO2.out.drew) HM2.out
                go_wp2_with fail
                go_roundg (4-(k+1))
                case measure=>omega
                case rel=>exact⟨k+1,by omega,Nat.le_refl _,(by go_simp<;>first|exact IntWalk.i64_in _ (by omega)|(clear hwi;go_num)),HTz.out,HOz.out⟩
          case neg=>
            have hltz2:¬(k:Int)<4:=by omega
            obtain rfl:4=k:=by omega
            go_wp2_with fail
            go_roundg (4-(i+1))
            case measure=>omega
            case rel=>exact⟨i+1,by omega,Nat.le_refl _,(by go_simp<;>first|exact IntWalk.i64_in _ (by omega)|(clear hwi;go_num)),hT2.out,hO2.out⟩
      case neg=>
        have hltz:¬(i:Int)<4:=by omega
        obtain rfl:4=i:=by omega
        obtain⟨z,hz⟩:∃z,z=X.mulX Y:=⟨_,rfl⟩
        have hma:macA av bv 4 [0,0,0,0]=[z.a,z.b,z.c,z.d]:=by
          rw[HAE.out.1,HAE.out.2,macA_eq,hz]
          rfl
        have hO4:=hO.out
        rw[hma]at hO4
        have hzk:X.k+Y.k=z.k:=by rw[hz];rfl
        have hZB:Bd 4611686018427387904 z.a z.b z.c z.d:=by
          have h9:=HPP.out
          simp only[List.mem_cons,List.not_mem_nil,or_false,forall_eq_or_imp,forall_eq]at h9
          obtain⟨⟨p00,p01,p02,p03⟩,⟨p10,p11,p12,p13⟩,⟨p20,p21,p22,p23⟩,p30,p31,p32,p33⟩:=h9
          rw[hz]
          simp only[Num.mulX,Bd]
          omega
        obtain⟨o0,o1,o2,o3,of⟩:wr.cell? ⟨ob,0,none⟩=some (.int .i64 z.a)∧wr.cell? ⟨ob,1,none⟩=some (.int .i64 z.b)∧wr.cell? ⟨ob,2,none⟩=some (.int .i64 z.c)∧wr.cell? ⟨ob,3,none⟩=some (.int .i64 z.d)∧∀o,wr.frozen? ⟨ob,o,none⟩=false:=⟨hO4.cell 0 _ rfl,hO4.cell 1 _ rfl,hO4.cell 2 _ rfl,hO4.cell 3 _ rfl,hO4.free⟩
        have k0:=((HB1.out.below HB2W.out).touch hT.out (by have h1:=HSZ.out;have h2:=HLT.out;simp;omega)).cell 4 _ rfl
        have k1:=((HB2.out.below HB2W.out).touch hT.out (by have h1:=HSZ.out;have h2:=HLT.out;simp;omega)).cell 4 _ rfl
        have HX3:=Lib.hid ((HB3.out.below HB2W.out).touch hT.out (by have h1:=HSZ.out;have h2:=HLT.out;simp;omega))
        have hwk:IntKind.i64.wrap (X.k+Y.k)=z.k:=by rw[hzk];exact IntWalk.i64_in _ (by omega)
        have hlw:Below W.heap.size W wr:=HB2W.out.trans (hT.out.below HB2W.out.size (fun b hb=>by have h2:=HLT.out;simp at hb;omega))
        have HLW:=Lib.hid hlw
        have H58:=fun V=>form58 z.a z.b z.c z.d z.k V (by omega) hZB
        have HZE:Aside ((X.mulX Y).form=z.form):=by show _=_;rw[hz]
        clear hz hma hO4 hlw hzk
        go_wp2_with (go_at_call 58;(with_reducible refine(H58 _).mono ?_);rintro e w5 ⟨fa,fb,fc,fd,fk,rfl,hF,hb5⟩;have HF:Aside (z.form=⟨fa,fb,fc,fd,fk⟩):=hF.out.1;have HB5:=Lib.hid hb5;have hx9:=HX3.out.below hb5;obtain⟨y0,y1,y2,y3,y4,yf⟩:=hx9.five;have HX9:=Lib.hid hx9;clear hF hb5 hx9)
        have hq:=HX9.out.set5 (.int .i64 fa) (.int .i64 fb) (.int .i64 fc) (.int .i64 fd) (.int .i64 fk)
        refine bodyPost_ret (v:= .agg #[.int .i64 fa, .int .i64 fb, .int .i64 fc, .int .i64 fd, .int .i64 fk]) (by simp[results,Tryz.results57,go_sem,hq.cell 0 _ rfl,hq.cell 1 _ rfl,hq.cell 2 _ rfl,hq.cell 3 _ rfl,hq.cell 4 _ rfl]) rfl ?_
        rw[HZE.out,HF.out]
        have hL:=(HBW.out.trans (HLW.out.mono HBW.out.size)).trans (HB5.out.mono (Nat.le_trans HBW.out.size HLW.out.size))
        exact⟨rfl,hL.trans ((touch_set5 _ _ _ _ _ _ _).below hL.size (fun b hb=>by have:=HSZ.out;simp at hb;omega))⟩
end Go.Proofs.YtcoackmdmohnhaaGreatDoor
