/- Package ring: adding numbers (with K = 0). -/
import Derived.Test.YtcoackmdmohnhaaGreatDoorV3
set_option linter.unusedVariables false
set_option linter.unusedSimpArgs false
set_option maxRecDepth 100000
set_option maxHeartbeats 2000000
namespace Go.Proofs.YtcoackmdmohnhaaGreatDoor
open Go.RowKit Go.Shelf
theorem plus149 (a b:Int) (w:World) (h:-1000000≤a∧a≤1000000∧-1000000≤b∧b≤1000000):Calls Tryz.prog 149 #[a,b] w fun e w'=>e= .returned (.int .i64 (a+b))∧w=w':=by
 obtain⟨h1,h2,h3,h4⟩:=h;go_enter Tryz.func149,Tryz.ntmps149
 go_wp2
 go_ret
 exact⟨rfl,rfl⟩
theorem raised215 (a b c d:Int) (w:World):Calls Tryz.prog 215 #[.agg #[a,b,c,d, .int .i64 0, .func (.func 149) #[] #[]], .int .i64 0] w fun e w'=>e= .returned (.agg #[a,b,c,d])∧Below w.heap.size w w':=by
 have HP:=fun W=>parts132 a b c d 0 W;go_enter Tryz.func215,Tryz.ntmps215
 go_wp2_with fail
 have hb0:=(Blk.new w #[a,b,c,d, .int .i64 0, .func (.func 149) #[] #[]] 163).alloc (.cells #[.int .i64 (0:Int), .int .i64 (0:Int), .int .i64 (0:Int), .int .i64 (0:Int)] 161);have hb1:=Blk.new (w.alloc (.cells #[a,b,c,d, .int .i64 0, .func (.func 149) #[] #[]] 163)) #[.int .i64 (0:Int), .int .i64 (0:Int), .int .i64 (0:Int), .int .i64 (0:Int)] 161;have hB:Below w.heap.size w ((w.alloc (.cells #[a,b,c,d, .int .i64 0, .func (.func 149) #[] #[]] 163)).alloc (.cells #[.int .i64 (0:Int), .int .i64 (0:Int), .int .i64 (0:Int), .int .i64 (0:Int)] 161)):=(bR.alloc (Nat.le_refl _) _).alloc sI _;simp only[World.size_alloc]at hb1;generalize (w.alloc (.cells #[a,b,c,d, .int .i64 0, .func (.func 149) #[] #[]] 163)).alloc (.cells #[.int .i64 (0:Int), .int .i64 (0:Int), .int .i64 (0:Int), .int .i64 (0:Int)] 161)=W1 at *
 (with_reducible refine(HP W1).mono ?_)
 rintro e w2 ⟨rfl,hb⟩;have hB2:=below_then hB hb;have hb0':=hb0.below hb;have hb1':=hb1.below hb;have z4:=hb0'.cell 4 _ rfl;have hA:=hb0'.alloc (.cells #[a,b,c,d] 161);have hR:=hb1'.alloc (.cells #[a,b,c,d] 161);have hN:=Blk.new w2 #[a,b,c,d] 161;have hB3:=hB2.alloc hB2.size (.cells #[a,b,c,d] 161);have y4:=hA.cell 4 _ rfl;clear hb hb0 hb1 hb0' hB hB2 HP z4;go_wp2_with fail
 generalize w2.alloc (.cells #[a,b,c,d] 161)=W3 at *;obtain⟨n0,n1,n2,n3,_⟩:=hN.four;obtain⟨r0,r1,r2,r3,rf⟩:=hR.four;have HR5:=Lib.hid (hR.set4 a b c d);have HB3:=Lib.hid hB3;clear hA hR hN hB3 hb1';refine wp_loop_rounds 1 ?_
 rw[rounds_succ]
 go_wp2
 obtain⟨s0,s1,s2,s3,_⟩:=HR5.out.four;refine bodyPost_ret (v:= .agg #[a,b,c,d]) (by simp[results,Tryz.results215,go_sem,s0,s1,s2,s3]) rfl ⟨rfl,?_⟩
 exact below_set4 HB3.out oM _ _ _ _
theorem xe26_0 {p:Prop} (h:p:=by
 exact hK _ _ rfl hb ⟨below_then hG.1 hb,(fun h=>by obtain⟨q,e,hlt⟩:=hG.2.1 sH;exact⟨q,by simpa [updV] using e,Nat.lt_of_lt_of_le hlt hb.size⟩),(fun h=>by obtain⟨q,e,hlt⟩:=hG.2.2.1 sH;exact⟨q,by simpa [updV] using e,Nat.lt_of_lt_of_le hlt hb.size⟩),(fun h1 h2=>by simpa [updV] using hG.2.2.2.1 (by simpa using h1) (by simpa using h2)),(fun h _=>by have:=hno 9 kR;simp[this]at h)⟩):p:=h
theorem xe26_1 {p:Prop} (h:p:=by
 obtain⟨q,y0,y1,y2,y3,h1,h2,h3⟩:=ht
 by_cases hi9:i=9
 · subst hi9;obtain⟨q',v0,v1,v2,v3,rfl⟩:=hR
   by_cases e:q'=q
   · subst e;exact⟨q',_,_,_,_,h1,h2.set4 _ _ _ _,h3⟩
   exact⟨q,_,_,_,_,h1,h2.set4_other e _ _ _ _,h3⟩
 by_cases hi10:i=10
 · subst hi10;obtain⟨q',v0,v1,v2,v3,rfl⟩:=hR
   by_cases e:q'=q
   · subst e;exact⟨q',_,_,_,_,h1,h2.set4 _ _ _ _,h3⟩
   exact⟨q,_,_,_,_,h1,h2.set4_other e _ _ _ _,h3⟩
 exact⟨q,_,_,_,_,h1,h2.below (by have h9:=hR;split at h9<;>first|exact(hi9 rfl).elim|exact(hi10 rfl).elim|exact h9),h3⟩):p:=h
theorem add210 (a b c d a' b' c' d':Int) (w:World) (h1:Bd 1000 a b c d) (h2:Bd 1000 a' b' c' d'):
  Calls Tryz.prog 210 #[.agg #[a,b,c,d, .int .i64 0, .func (.func 149) #[] #[]], .agg #[a',b',c',d', .int .i64 0]] w fun e w'=>e= .returned (.tuple #[numV (Num.least ⟨a+a',b+b',c+c',d+d',0⟩).1, .int .i64 (Num.least ⟨a+a',b+b',c+c',d+d',0⟩).2])∧Below w.heap.size w w':=by
 have H215a:Aside (∀u,Calls Tryz.prog 215 #[.agg #[a,b,c,d, .int .i64 0, .func (.func 149) #[] #[]], .int .i64 0] u fun e w'=>e= .returned (.agg #[a,b,c,d])∧Below u.heap.size u w'):=fun u=>raised215 a b c d u;have H215b:Aside (∀u,Calls Tryz.prog 215 #[.agg #[a',b',c',d', .int .i64 0, .func (.func 149) #[] #[]], .int .i64 0] u fun e w'=>e= .returned (.agg #[a',b',c',d'])∧Below u.heap.size u w'):=fun u=>raised215 a' b' c' d' u;have H131:Aside (∀u,Calls Tryz.prog 131 #[.agg #[a',b',c',d', .int .i64 0]] u fun e w'=>e= .returned (.agg #[a',b',c',d', .int .i64 0, .func (.func 149) #[] #[]])∧Below u.heap.size u w'):=fun u=>work131 a' b' c' d' 0 u;go_enter Tryz.func210,Tryz.ntmps210
 have HB1:Aside (Below w.heap.size w (((w.alloc (.cells #[a,b,c,d, .int .i64 0, .func (.func 149) #[] #[]] 163)).alloc (.cells #[a',b',c',d', .int .i64 0] 26)).alloc (.cells #[.int .i64 (0:Int), .int .i64 (0:Int), .int .i64 (0:Int), .int .i64 (0:Int), .int .i64 (0:Int)] 26))):=(((Below.refl _ w).alloc (Nat.le_refl _) _).alloc sI _).alloc (by simp;omega) _;have hA:=((Blk.new w #[a,b,c,d, .int .i64 0, .func (.func 149) #[] #[]] 163).alloc (.cells #[a',b',c',d', .int .i64 0] 26)).alloc (.cells #[.int .i64 (0:Int), .int .i64 (0:Int), .int .i64 (0:Int), .int .i64 (0:Int), .int .i64 (0:Int)] 26);have hB:=(Blk.new (w.alloc (.cells #[a,b,c,d, .int .i64 0, .func (.func 149) #[] #[]] 163)) #[a',b',c',d', .int .i64 0] 26).alloc (.cells #[.int .i64 (0:Int), .int .i64 (0:Int), .int .i64 (0:Int), .int .i64 (0:Int), .int .i64 (0:Int)] 26)
 have hR:=Blk.new ((w.alloc (.cells #[a,b,c,d, .int .i64 0, .func (.func 149) #[] #[]] 163)).alloc (.cells #[a',b',c',d', .int .i64 0] 26)) #[.int .i64 (0:Int), .int .i64 (0:Int), .int .i64 (0:Int), .int .i64 (0:Int), .int .i64 (0:Int)] 26;simp only[World.size_alloc]at hB hR;go_wp2_with fail
 generalize (((w.alloc (.cells #[a,b,c,d, .int .i64 0, .func (.func 149) #[] #[]] 163)).alloc (.cells #[a',b',c',d', .int .i64 0] 26)).alloc (.cells #[.int .i64 (0:Int), .int .i64 (0:Int), .int .i64 (0:Int), .int .i64 (0:Int), .int .i64 (0:Int)] 26))=W1 at *;obtain⟨s2,hs2⟩:∃q,q=w.heap.size+1+1:=⟨_,rfl⟩;rw[←hs2]at hR ⊢;obtain⟨s1,hs1⟩:∃q,q=w.heap.size+1:=⟨_,rfl⟩;rw[←hs1]at hB ⊢;have HQ:Aside (s1=w.heap.size+1∧s2=w.heap.size+2):=⟨hs1,hs2⟩;have HA:=Lib.hid hA;have HB:=Lib.hid hB;have HR:=Lib.hid hR
 have HC:Aside (∀u,Below W1.heap.size W1 u→u.cell? ⟨w.heap.size,0,none⟩=some (.int .i64 a)∧u.cell? ⟨w.heap.size,1,none⟩=some (.int .i64 b)∧u.cell? ⟨w.heap.size,2,none⟩=some (.int .i64 c)∧u.cell? ⟨w.heap.size,3,none⟩=some (.int .i64 d)∧u.cell? ⟨w.heap.size,4,none⟩=some (.int .i64 0)∧u.cell? ⟨w.heap.size,5,none⟩=some (.func (.func 149) #[] #[])∧u.cell? ⟨s1,0,none⟩=some (.int .i64 a')∧u.cell? ⟨s1,1,none⟩=some (.int .i64 b')∧u.cell? ⟨s1,2,none⟩=some (.int .i64 c')∧u.cell? ⟨s1,3,none⟩=some (.int .i64 d')∧u.cell? ⟨s1,4,none⟩=some (.int .i64 0)):=by
  intro u hu;have h1:=hA.below hu;have h2:=hB.below hu;exact⟨h1.cell 0 _ rfl,h1.cell 1 _ rfl,h1.cell 2 _ rfl,h1.cell 3 _ rfl,h1.cell 4 _ rfl,h1.cell 5 _ rfl,h2.cell 0 _ rfl,h2.cell 1 _ rfl,h2.cell 2 _ rfl,h2.cell 3 _ rfl,h2.cell 4 _ rfl⟩
 clear hs1 hs2 hA hB hR
 refine wp_region_stepsX kR (fun x=>{tmps:=#[.agg #[a,b,c,d, .int .i64 0, .func (.func 149) #[] #[]], .agg #[a',b',c',d', .int .i64 0],pt w.heap.size 0,pt s1 0,pt s2 0, .int .i64 0, .int .i64 0,x 7,x 8,undef,pt w.heap.size 0,pt w.heap.size 4, .int .i64 0,pt s1 4, .int .i64 0, .int .i64 0,x 16,x 17,x 18,x 19,x 20,x 21,x 22,undef,undef,undef,undef,undef,undef,undef,undef,undef,undef,undef,undef,undef,undef,undef,undef,undef,undef,undef,undef,undef,undef],defers:=[]}) (fun _=>undef) rfl (fun l x u=>Below W1.heap.size W1 u∧(l 7=true→∃q,x 7=pt q 0∧q<u.heap.size)∧(l 8=true→∃q,x 8=pt q 0∧q<u.heap.size)∧(l 7=true→l 8=true→x 7≠x 8)∧(l 9=true→l 10=false→∃q q8 y0 y1 y2 y3,x 7=pt q 0∧x 8=pt q8 0∧q≠q8∧W1.heap.size≤q∧W1.heap.size≤q8∧Blk u q [a,b,c,d] 161∧Blk u q8 [y0,y1,y2,y3] 161)) (fun i u u'=>match i with|9=>∃q v0 v1 v2 v3,u'=((((u.setCell ⟨q,0,none⟩ v0).setCell ⟨q,1,none⟩ v1).setCell ⟨q,2,none⟩ v2).setCell ⟨q,3,none⟩ v3)|10=>∃q v0 v1 v2 v3,u'=((((u.setCell ⟨q,0,none⟩ v0).setCell ⟨q,1,none⟩ v1).setCell ⟨q,2,none⟩ v2).setCell ⟨q,3,none⟩ v3)|_=>Below u.heap.size u u') (fun j=>match j with|0=>[16]|1=>[17]|2=>[18]|3=>[19]|4=>[20]|5=>[21]|6=>[22]|7=>[7]|8=>[8]|9=>[8]|10=>[7,8]|_=>[]) (fun j x u=>match j with|0=>x 16= .agg #[a,b,c,d, .int .i64 0, .func (.func 149) #[] #[]]|1=>x 17= .int .i64 0|2=>x 18= .agg #[a,b,c,d]|3=>x 19= .agg #[a',b',c',d', .int .i64 0]|4=>x 20= .agg #[a',b',c',d', .int .i64 0, .func (.func 149) #[] #[]]|5=>x 21= .int .i64 0|6=>x 22= .agg #[a',b',c',d']|7=>∃q y0 y1 y2 y3,x 7=pt q 0∧Blk u q [y0,y1,y2,y3] 161∧W1.heap.size≤q|8=>∃q y0 y1 y2 y3,x 8=pt q 0∧Blk u q [y0,y1,y2,y3] 161∧W1.heap.size≤q|9=>∃q,x 8=pt q 0|10=>∃q q8,x 7=pt q 0∧x 8=pt q8 0∧q≠q8∧W1.heap.size≤q∧W1.heap.size≤q8∧Blk u q [a,b,c,d] 161∧Blk u q8 [a',b',c',d'] 161|_=>True) kR ?hput kR kR ?h0 ?hkeep ?hloc ?hstep ?hend
 case hput=>repeat' first|exact True.intro|apply And.intro|(intro d hd x v;cases hd<;>rfl)
 case h0=>exact⟨bR.drew,(fun h=>by cases h),(fun h=>by cases h),(fun h=>by cases h),(fun h=>by cases h)⟩
 case hkeep=>
  intro j i x l u u' hj hi hpre ht hG hR
  by_cases hj7:j=7
  · subst hj7;exact xe26_1
  by_cases hj8:j=8
  · subst hj8;exact xe26_1
  by_cases hj10:j=10
  · subst hj10;obtain⟨q,q8,h1,h2,h3,h4,h5,h6,h7⟩:=ht
    by_cases hi9:i=9
    · subst hi9;rw[hpre 9 kR]at hi;cases hi
    by_cases hi10:i=10
    · subst hi10;rw[hj]at hi;cases hi
    exact⟨q,q8,h1,h2,h3,h4,h5,h6.below (by have h9:=hR;split at h9<;>first|exact(hi9 rfl).elim|exact(hi10 rfl).elim|exact h9),h7.below (by have h9:=hR;split at h9<;>first|exact(hi9 rfl).elim|exact(hi10 rfl).elim|exact h9)⟩
  exact(by have h9:=ht;clear ht;split at h9<;>first|exact h9|exact(hj7 rfl).elim|exact(hj8 rfl).elim|exact(hj10 rfl).elim)
 case hloc=>repeat' first|exact True.intro|apply And.intro|exact fun x x' u h ht=>ht|(intro x x' u h ht;simp only[List.mem_cons,List.not_mem_nil,or_false,forall_eq_or_imp,forall_eq]at h;simp only[h]at ht;exact ht)
 case hstep=>
  refine⟨?_,?_,?c2,?_,?c4,?_,?c6,?c7,?c8,?c9,?c10,trivial⟩
  case c2=>
   intro l x u hG hno hli hpre hd K hK;have e0:x 16= .agg #[a,b,c,d, .int .i64 0, .func (.func 149) #[] #[]]:=hd ⟨0, .data⟩ sI rfl;have e1:x 17= .int .i64 0:=hd ⟨1, .data⟩ sI rfl;clear hd;generalize x 16=z0 at e0 hK ⊢;subst e0;generalize x 17=z1 at e1 hK ⊢;subst e1;go_simp
   (with_reducible refine(H215a.out u).mono ?_);rintro e u2 ⟨rfl,hb⟩
   exact xe26_0
  case c4=>
   intro l x u hG hno hli hpre hd K hK;have e3:x 19= .agg #[a',b',c',d', .int .i64 0]:=hd ⟨3, .data⟩ sI rfl;clear hd;generalize x 19=z3 at e3 hK ⊢;subst e3;go_simp
   (with_reducible refine(H131.out u).mono ?_);rintro e u2 ⟨rfl,hb⟩
   exact xe26_0
  case c6=>
   intro l x u hG hno hli hpre hd K hK;have e4:x 20= .agg #[a',b',c',d', .int .i64 0, .func (.func 149) #[] #[]]:=hd ⟨4, .data⟩ sI rfl;have e5:x 21= .int .i64 0:=hd ⟨5, .data⟩ sI rfl;clear hd;generalize x 20=z4 at e4 hK ⊢;subst e4;generalize x 21=z5 at e5 hK ⊢;subst e5;go_simp
   (with_reducible refine(H215b.out u).mono ?_);rintro e u2 ⟨rfl,hb⟩
   exact xe26_0
  case c7=>
   intro l x u hG hno hli hpre hd K hK;clear hd;go_simp
   exact hK _ _ ⟨_,_,_,_,_,rfl,Blk.new _ _ _,hG.1.size⟩ (bR.alloc (Nat.le_refl _) _) ⟨hG.1.alloc hG.1.size _,(fun _=>⟨u.heap.size,by simp[updV],by simp⟩),(fun h=>by obtain⟨q,e,hlt⟩:=hG.2.2.1 sH;exact⟨q,by simpa [updV] using e,by simp;omega⟩),(fun h7 h8=>by obtain⟨q,e,hlt⟩:=hG.2.2.1 (by simpa using h8);intro h;simp[updV,e]at h;try omega),(fun h _=>by have:=hno 9 kR;simp[this]at h)⟩
  case c8=>
   intro l x u hG hno hli hpre hd K hK;clear hd;go_simp
   exact hK _ _ ⟨_,_,_,_,_,rfl,Blk.new _ _ _,hG.1.size⟩ (bR.alloc (Nat.le_refl _) _) ⟨hG.1.alloc hG.1.size _,(fun h=>by obtain⟨q,e,hlt⟩:=hG.2.1 sH;exact⟨q,by simpa [updV] using e,by simp;omega⟩),(fun _=>⟨u.heap.size,by simp[updV],by simp⟩),(fun h7 h8=>by obtain⟨q,e,hlt⟩:=hG.2.1 (by simpa using h7);intro h;simp[updV,e]at h;try omega),(fun h _=>by have:=hno 9 kR;simp[this]at h)⟩
  case c9=>
   intro l x u hG hno hli hpre hd K hK;have e7:∃q y0 y1 y2 y3,x 7=pt q 0∧Blk u q [y0,y1,y2,y3] 161∧W1.heap.size≤q:=hd ⟨7, .data⟩ sI rfl;have e2:x 18= .agg #[a,b,c,d]:=hd ⟨2, .data⟩ sI rfl;have e8:∃q y0 y1 y2 y3,x 8=pt q 0∧Blk u q [y0,y1,y2,y3] 161∧W1.heap.size≤q:=hd ⟨8, .phase⟩ sI rfl;clear hd;generalize x 18=z2 at e2 hK ⊢;subst e2;obtain⟨q,y0,y1,y2,y3,h7,hB7,hq⟩:=e7;obtain⟨q8,w0,w1,w2,w3,h8,hB8,hq8⟩:=e8;have hD:=hG.2.2.2.1 (hpre 7 kR) (hpre 8 kR);rw[h7,h8]at hD;have hne:q≠q8:=fun e=>hD (by rw[e]);generalize k7:x 7=z7 at h7 hK ⊢;subst h7;obtain⟨c0,c1,c2,c3,cf⟩:=hB7.four;have H8:=Lib.hid h8;have K7:=Lib.hid k7;clear h8 k7;go_simp
   have h8:=H8.out;have k7:=K7.out;exact hK undef _ ⟨q8,h8⟩ ⟨q,_,_,_,_,rfl⟩ ⟨below_set4 hG.1 hq _ _ _ _,(fun _=>⟨q,k7,by simpa [World.setCell] using hB7.lt⟩),(fun h=>by obtain⟨q,e,hlt⟩:=hG.2.2.1 sH;exact⟨q,e,by simpa [World.setCell] using hlt⟩),(fun _ _=>by show x 7≠x 8;rw[k7,h8];intro h;cases h;exact hne rfl),fun _ _=>⟨q,q8,w0,w1,w2,w3,k7,h8,hne,hq,hq8,hB7.set4 _ _ _ _,hB8.set4_other hne _ _ _ _⟩⟩
  case c10=>
   intro l x u hG hno hli hpre hd K hK;have e8:∃q y0 y1 y2 y3,x 8=pt q 0∧Blk u q [y0,y1,y2,y3] 161∧W1.heap.size≤q:=hd ⟨8, .data⟩ sI rfl;have e6:x 22= .agg #[a',b',c',d']:=hd ⟨6, .data⟩ sI rfl;have e7:∃q y0 y1 y2 y3,x 7=pt q 0∧Blk u q [y0,y1,y2,y3] 161∧W1.heap.size≤q:=hd ⟨7, .phase⟩ sI rfl;clear hd;generalize x 22=z6 at e6 hK ⊢;subst e6;obtain⟨q,q8,y0,y1,y2,y3,h7,h8,hne,hq,hq8,hB7,hB8⟩:=hG.2.2.2.2 (hpre 9 kR) hli;generalize k8:x 8=z8 at h8 hK ⊢;subst h8;obtain⟨c0,c1,c2,c3,cf⟩:=hB8.four;have H7:=Lib.hid h7;have K8:=Lib.hid k8;clear h7 k8;go_simp
   have h7:=H7.out;have k8:=K8.out;exact hK undef _ ⟨q,q8,h7,k8,hne,hq,hq8,hB7.set4_other (fun e=>hne e.symm) _ _ _ _,hB8.set4 _ _ _ _⟩ ⟨q8,_,_,_,_,rfl⟩ ⟨below_set4 hG.1 hq8 _ _ _ _,(fun h=>by obtain⟨q,e,hlt⟩:=hG.2.1 sH;exact⟨q,e,by simpa [World.setCell] using hlt⟩),(fun _=>⟨q8,k8,by simpa [World.setCell] using hB8.lt⟩),(fun _ _=>by show x 7≠x 8;rw[h7,k8];intro h;cases h;exact hne rfl),fun _ h=>by simp at h⟩
  all_goals
   intro l x u hG hno hli hpre hd K hK;dsimp only at hd;simp only[eB]at hd
   try simp only[hd]at hK ⊢
   first|(go_simp;exact hK _ _ rfl bR ⟨hG.1,(fun h=>by simpa [updV] using hG.2.1 sH),(fun h=>by simpa [updV] using hG.2.2.1 sH),(fun h1 h2=>by simpa [updV] using hG.2.2.2.1 (by simpa using h1) (by simpa using h2)),(fun h _=>by have:=hno 9 kR;simp[this]at h)⟩)|(obtain⟨a0,a1,a2,a3,a4,a5,b0,b1,b2,b3,b4⟩:=HC.out _ hG.1;go_simp;exact hK _ _ rfl bR ⟨hG.1,(fun h=>by simpa [updV] using hG.2.1 sH),(fun h=>by simpa [updV] using hG.2.2.1 sH),(fun h1 h2=>by simpa [updV] using hG.2.2.2.1 (by simpa using h1) (by simpa using h2)),(fun h _=>by have:=hno 9 kR;simp[this]at h)⟩)
 rintro l x u hall hG ⟨_,_,_,_,_,_,_,_,_,_,⟨q,q8,h7,h8,hne,hq,hq8,hB7,hB8⟩,_⟩;have hBu:=hG.1;clear hall hG;generalize x 7=z7 at h7 ⊢;subst h7;generalize x 8=z8 at h8 ⊢;subst h8;have HqA:Aside (Blk u q [a,b,c,d] 161):=hB7;have Hq8:Aside (Blk u q8 [a',b',c',d'] 161):=hB8;have HBu:Aside (Below W1.heap.size W1 u):=hBu;have Hne:Aside (q≠q8∧W1.heap.size≤q∧W1.heap.size≤q8):=⟨hne,hq,hq8⟩;have h1':=h1;have h2':=h2;obtain⟨g1,g2,g3,g4,g5,g6,g7,g8⟩:=h1';obtain⟨k1,k2,k3,k4,k5,k6,k7,k8⟩:=h2';clear hB7 hB8 hBu hne hq hq8 h1 h2;generalize x=xx0;generalize u=u0 at *;go_wp2_with fail
 refine wp_loop_rounds 5 ?_
 rw[rounds_succ];obtain⟨c0,c1,c2,c3,cf⟩:=HqA.out.four;obtain⟨e0,e1,e2,e3,_⟩:=Hq8.out.four;have c5:=(HC.out _ HBu.out).2.2.2.2.2.1;have HPL:Aside (∀(x y:Int) (u:World),(-1000000≤x∧x≤1000000∧-1000000≤y∧y≤1000000)→Calls Tryz.prog 149 #[x,y] u fun e w'=>e= .returned (.int .i64 (x+y))∧u=w'):=fun x y u h=>plus149 x y u h;go_wp2_with fail
 refine wp_region_F [(26,11)] (fun l u=>(l 11=true→u=(u0.drew.setCell ⟨q,0,none⟩ (.int .i64 (a+a'))))∧(l 11=false→u=u0.drew)) (fun i u u'=>True) (fun j x u=>match j with|0=>x 26= .int .i64 0|1=>x 27=pt w.heap.size 5|2=>x 28= .func (.func 149) #[] #[]|3=>x 29= .int .i64 0|4=>x 30=pt q 0|5=>x 31=a|6=>x 32= .int .i64 0|7=>x 33=pt q8 0|8=>x 34=a'|9=>x 35= .int .i64 (a+a')|10=>x 36=pt q 0|11=>True|_=>True) ?h0 ?hkeep ?hstep ?d0
 case h0=>exact⟨(fun h=>by cases h),fun _=>rfl⟩
 case hkeep=>
  intro j i x l u u' hj hi hpre ht hG hR;exact ht
 case hstep=>
  dsimp only[fil,fls,fl,List.toList_toArray,Nat.reduceAdd];refine⟨?_,?_,?_,?_,?_,?_,?_,?_,?_,?c9,?_,?c11,trivial⟩
  all_goals intro l x u hG hno hli hpre hd K hK
  case c9=>
   have e2:x 28= .func (.func 149) #[] #[]:=hd ⟨2, .data⟩ sI rfl;have e5:x 31= .int .i64 a:=hd ⟨5, .data⟩ sI rfl;have e8:x 34= .int .i64 a':=hd ⟨8, .data⟩ sI rfl;clear hd;generalize x 28=z2 at e2 hK ⊢;subst e2;generalize x 31=z5 at e5 hK ⊢;subst e5;generalize x 34=z8 at e8 hK ⊢;subst e8;obtain rfl:=hG.2 (hno 11 kR);go_simp
   (with_reducible refine(HPL.out a a' _ oM).mono ?_);rintro e u9 ⟨rfl,rfl⟩
   exact hK _ _ rfl trivial sG
  case c11=>
   have e10:x 36=pt q 0:=hd ⟨10, .data⟩ sI rfl;have e9:x 35= .int .i64 (a+a'):=hd ⟨9, .data⟩ sI rfl;clear hd;generalize x 36=z10 at e10 hK ⊢;subst e10;generalize x 35=z9 at e9 hK ⊢;subst e9;obtain rfl:=hG.2 hli;go_simp
   exact hK undef _ trivial trivial ⟨fun _=>rfl,fun h=>by simp at h⟩
  all_goals
   dsimp only at hd;simp only[eB]at hd
   try simp only[hd]at hK ⊢
   first|(go_simp;exact hK _ _ rfl trivial sG)|(obtain rfl:=hG.2 (hno 11 kR);go_simp;exact hK _ _ rfl trivial sG)
 dsimp only[fil,fls,fl,List.toList_toArray,Nat.reduceAdd];intro l x u hall hG hT;obtain rfl:=hG.1 (hall _ dE);clear hG hall hT c0 c1 c2 c3 cf e0 e1 e2 e3 c5;generalize x=xx1;replace HqA:Aside (Blk (u0.drew.setCell ⟨q,0,none⟩ (.int .i64 (a+a'))) q [.int .i64 (a+a'), .int .i64 (b), .int .i64 (c), .int .i64 (d)] 161):=HqA.out.drew.set 0 _;replace Hq8:Aside (Blk (u0.drew.setCell ⟨q,0,none⟩ (.int .i64 (a+a'))) q8 [a',b',c',d'] 161):=Hq8.out.drew.set_other _ _ Hne.out.1;replace HBu:Aside (Below W1.heap.size W1 (u0.drew.setCell ⟨q,0,none⟩ (.int .i64 (a+a')))):=HBu.out.drew.setCell (p:=⟨q,0,none⟩) Hne.out.2.1 _;generalize (u0.drew.setCell ⟨q,0,none⟩ (.int .i64 (a+a')))=u1 at *;go_wp2_with fail
 rw[rounds_succ];obtain⟨c0,c1,c2,c3,cf⟩:=HqA.out.four;obtain⟨e0,e1,e2,e3,_⟩:=Hq8.out.four;have c5:=(HC.out _ HBu.out).2.2.2.2.2.1;go_wp2_with fail
 refine wp_region_F [(26,11)] (fun l u=>(l 11=true→u=(u1.drew.setCell ⟨q,1,none⟩ (.int .i64 (b+b'))))∧(l 11=false→u=u1.drew)) (fun i u u'=>True) (fun j x u=>match j with|0=>x 26= .int .i64 1|1=>x 27=pt w.heap.size 5|2=>x 28= .func (.func 149) #[] #[]|3=>x 29= .int .i64 1|4=>x 30=pt q 1|5=>x 31=b|6=>x 32= .int .i64 1|7=>x 33=pt q8 1|8=>x 34=b'|9=>x 35= .int .i64 (b+b')|10=>x 36=pt q 1|11=>True|_=>True) ?h0 ?hkeep ?hstep ?d1
 case h0=>exact⟨(fun h=>by cases h),fun _=>rfl⟩
 case hkeep=>
  intro j i x l u u' hj hi hpre ht hG hR;exact ht
 case hstep=>
  dsimp only[fil,fls,fl,List.toList_toArray,Nat.reduceAdd];refine⟨?_,?_,?_,?_,?_,?_,?_,?_,?_,?c9,?_,?c11,trivial⟩
  all_goals intro l x u hG hno hli hpre hd K hK
  case c9=>
   have e2:x 28= .func (.func 149) #[] #[]:=hd ⟨2, .data⟩ sI rfl;have e5:x 31= .int .i64 b:=hd ⟨5, .data⟩ sI rfl;have e8:x 34= .int .i64 b':=hd ⟨8, .data⟩ sI rfl;clear hd;generalize x 28=z2 at e2 hK ⊢;subst e2;generalize x 31=z5 at e5 hK ⊢;subst e5;generalize x 34=z8 at e8 hK ⊢;subst e8;obtain rfl:=hG.2 (hno 11 kR);go_simp
   (with_reducible refine(HPL.out b b' _ oM).mono ?_);rintro e u9 ⟨rfl,rfl⟩
   exact hK _ _ rfl trivial sG
  case c11=>
   have e10:x 36=pt q 1:=hd ⟨10, .data⟩ sI rfl;have e9:x 35= .int .i64 (b+b'):=hd ⟨9, .data⟩ sI rfl;clear hd;generalize x 36=z10 at e10 hK ⊢;subst e10;generalize x 35=z9 at e9 hK ⊢;subst e9;obtain rfl:=hG.2 hli;go_simp
   exact hK undef _ trivial trivial ⟨fun _=>rfl,fun h=>by simp at h⟩
  all_goals
   dsimp only at hd;simp only[eB]at hd
   try simp only[hd]at hK ⊢
   first|(go_simp;exact hK _ _ rfl trivial sG)|(obtain rfl:=hG.2 (hno 11 kR);go_simp;exact hK _ _ rfl trivial sG)
 dsimp only[fil,fls,fl,List.toList_toArray,Nat.reduceAdd];intro l x u hall hG hT;obtain rfl:=hG.1 (hall _ dE);clear hG hall hT c0 c1 c2 c3 cf e0 e1 e2 e3 c5;generalize x=xx2;replace HqA:Aside (Blk (u1.drew.setCell ⟨q,1,none⟩ (.int .i64 (b+b'))) q [.int .i64 (a+a'), .int .i64 (b+b'), .int .i64 (c), .int .i64 (d)] 161):=HqA.out.drew.set 1 _;replace Hq8:Aside (Blk (u1.drew.setCell ⟨q,1,none⟩ (.int .i64 (b+b'))) q8 [a',b',c',d'] 161):=Hq8.out.drew.set_other _ _ Hne.out.1;replace HBu:Aside (Below W1.heap.size W1 (u1.drew.setCell ⟨q,1,none⟩ (.int .i64 (b+b')))):=HBu.out.drew.setCell (p:=⟨q,1,none⟩) Hne.out.2.1 _;generalize (u1.drew.setCell ⟨q,1,none⟩ (.int .i64 (b+b')))=u2 at *;go_wp2_with fail
 rw[rounds_succ];obtain⟨c0,c1,c2,c3,cf⟩:=HqA.out.four;obtain⟨e0,e1,e2,e3,_⟩:=Hq8.out.four;have c5:=(HC.out _ HBu.out).2.2.2.2.2.1;go_wp2_with fail
 refine wp_region_F [(26,11)] (fun l u=>(l 11=true→u=(u2.drew.setCell ⟨q,2,none⟩ (.int .i64 (c+c'))))∧(l 11=false→u=u2.drew)) (fun i u u'=>True) (fun j x u=>match j with|0=>x 26= .int .i64 2|1=>x 27=pt w.heap.size 5|2=>x 28= .func (.func 149) #[] #[]|3=>x 29= .int .i64 2|4=>x 30=pt q 2|5=>x 31=c|6=>x 32= .int .i64 2|7=>x 33=pt q8 2|8=>x 34=c'|9=>x 35= .int .i64 (c+c')|10=>x 36=pt q 2|11=>True|_=>True) ?h0 ?hkeep ?hstep ?d2
 case h0=>exact⟨(fun h=>by cases h),fun _=>rfl⟩
 case hkeep=>
  intro j i x l u u' hj hi hpre ht hG hR;exact ht
 case hstep=>
  dsimp only[fil,fls,fl,List.toList_toArray,Nat.reduceAdd];refine⟨?_,?_,?_,?_,?_,?_,?_,?_,?_,?c9,?_,?c11,trivial⟩
  all_goals intro l x u hG hno hli hpre hd K hK
  case c9=>
   have e2:x 28= .func (.func 149) #[] #[]:=hd ⟨2, .data⟩ sI rfl;have e5:x 31= .int .i64 c:=hd ⟨5, .data⟩ sI rfl;have e8:x 34= .int .i64 c':=hd ⟨8, .data⟩ sI rfl;clear hd;generalize x 28=z2 at e2 hK ⊢;subst e2;generalize x 31=z5 at e5 hK ⊢;subst e5;generalize x 34=z8 at e8 hK ⊢;subst e8;obtain rfl:=hG.2 (hno 11 kR);go_simp
   (with_reducible refine(HPL.out c c' _ oM).mono ?_);rintro e u9 ⟨rfl,rfl⟩
   exact hK _ _ rfl trivial sG
  case c11=>
   have e10:x 36=pt q 2:=hd ⟨10, .data⟩ sI rfl;have e9:x 35= .int .i64 (c+c'):=hd ⟨9, .data⟩ sI rfl;clear hd;generalize x 36=z10 at e10 hK ⊢;subst e10;generalize x 35=z9 at e9 hK ⊢;subst e9;obtain rfl:=hG.2 hli;go_simp
   exact hK undef _ trivial trivial ⟨fun _=>rfl,fun h=>by simp at h⟩
  all_goals
   dsimp only at hd;simp only[eB]at hd
   try simp only[hd]at hK ⊢
   first|(go_simp;exact hK _ _ rfl trivial sG)|(obtain rfl:=hG.2 (hno 11 kR);go_simp;exact hK _ _ rfl trivial sG)
 dsimp only[fil,fls,fl,List.toList_toArray,Nat.reduceAdd];intro l x u hall hG hT;obtain rfl:=hG.1 (hall _ dE);clear hG hall hT c0 c1 c2 c3 cf e0 e1 e2 e3 c5;generalize x=xx3;replace HqA:Aside (Blk (u2.drew.setCell ⟨q,2,none⟩ (.int .i64 (c+c'))) q [.int .i64 (a+a'), .int .i64 (b+b'), .int .i64 (c+c'), .int .i64 (d)] 161):=HqA.out.drew.set 2 _;replace Hq8:Aside (Blk (u2.drew.setCell ⟨q,2,none⟩ (.int .i64 (c+c'))) q8 [a',b',c',d'] 161):=Hq8.out.drew.set_other _ _ Hne.out.1;replace HBu:Aside (Below W1.heap.size W1 (u2.drew.setCell ⟨q,2,none⟩ (.int .i64 (c+c')))):=HBu.out.drew.setCell (p:=⟨q,2,none⟩) Hne.out.2.1 _;generalize (u2.drew.setCell ⟨q,2,none⟩ (.int .i64 (c+c')))=u3 at *;go_wp2_with fail
 rw[rounds_succ];obtain⟨c0,c1,c2,c3,cf⟩:=HqA.out.four;obtain⟨e0,e1,e2,e3,_⟩:=Hq8.out.four;have c5:=(HC.out _ HBu.out).2.2.2.2.2.1;go_wp2_with fail
 refine wp_region_F [(26,11)] (fun l u=>(l 11=true→u=(u3.drew.setCell ⟨q,3,none⟩ (.int .i64 (d+d'))))∧(l 11=false→u=u3.drew)) (fun i u u'=>True) (fun j x u=>match j with|0=>x 26= .int .i64 3|1=>x 27=pt w.heap.size 5|2=>x 28= .func (.func 149) #[] #[]|3=>x 29= .int .i64 3|4=>x 30=pt q 3|5=>x 31=d|6=>x 32= .int .i64 3|7=>x 33=pt q8 3|8=>x 34=d'|9=>x 35= .int .i64 (d+d')|10=>x 36=pt q 3|11=>True|_=>True) ?h0 ?hkeep ?hstep ?d3
 case h0=>exact⟨(fun h=>by cases h),fun _=>rfl⟩
 case hkeep=>
  intro j i x l u u' hj hi hpre ht hG hR;exact ht
 case hstep=>
  dsimp only[fil,fls,fl,List.toList_toArray,Nat.reduceAdd];refine⟨?_,?_,?_,?_,?_,?_,?_,?_,?_,?c9,?_,?c11,trivial⟩
  all_goals intro l x u hG hno hli hpre hd K hK
  case c9=>
   have e2:x 28= .func (.func 149) #[] #[]:=hd ⟨2, .data⟩ sI rfl;have e5:x 31= .int .i64 d:=hd ⟨5, .data⟩ sI rfl;have e8:x 34= .int .i64 d':=hd ⟨8, .data⟩ sI rfl;clear hd;generalize x 28=z2 at e2 hK ⊢;subst e2;generalize x 31=z5 at e5 hK ⊢;subst e5;generalize x 34=z8 at e8 hK ⊢;subst e8;obtain rfl:=hG.2 (hno 11 kR);go_simp
   (with_reducible refine(HPL.out d d' _ oM).mono ?_);rintro e u9 ⟨rfl,rfl⟩
   exact hK _ _ rfl trivial sG
  case c11=>
   have e10:x 36=pt q 3:=hd ⟨10, .data⟩ sI rfl;have e9:x 35= .int .i64 (d+d'):=hd ⟨9, .data⟩ sI rfl;clear hd;generalize x 36=z10 at e10 hK ⊢;subst e10;generalize x 35=z9 at e9 hK ⊢;subst e9;obtain rfl:=hG.2 hli;go_simp
   exact hK undef _ trivial trivial ⟨fun _=>rfl,fun h=>by simp at h⟩
  all_goals
   dsimp only at hd;simp only[eB]at hd
   try simp only[hd]at hK ⊢
   first|(go_simp;exact hK _ _ rfl trivial sG)|(obtain rfl:=hG.2 (hno 11 kR);go_simp;exact hK _ _ rfl trivial sG)
 dsimp only[fil,fls,fl,List.toList_toArray,Nat.reduceAdd];intro l x u hall hG hT;obtain rfl:=hG.1 (hall _ dE);clear hG hall hT c0 c1 c2 c3 cf e0 e1 e2 e3 c5;generalize x=xx4;replace HqA:Aside (Blk (u3.drew.setCell ⟨q,3,none⟩ (.int .i64 (d+d'))) q [.int .i64 (a+a'), .int .i64 (b+b'), .int .i64 (c+c'), .int .i64 (d+d')] 161):=HqA.out.drew.set 3 _;replace Hq8:Aside (Blk (u3.drew.setCell ⟨q,3,none⟩ (.int .i64 (d+d'))) q8 [a',b',c',d'] 161):=Hq8.out.drew.set_other _ _ Hne.out.1;replace HBu:Aside (Below W1.heap.size W1 (u3.drew.setCell ⟨q,3,none⟩ (.int .i64 (d+d')))):=HBu.out.drew.setCell (p:=⟨q,3,none⟩) Hne.out.2.1 _;generalize (u3.drew.setCell ⟨q,3,none⟩ (.int .i64 (d+d')))=u4 at *;go_wp2_with fail
 rw[rounds_succ];obtain⟨c0,c1,c2,c3,cf⟩:=HqA.out.four;have hres:=HR.out.below HBu.out;obtain⟨t0,t1,t2,t3,t4,tf⟩:=hres.five;have HRes:=Lib.hid hres;have H135:Aside (∀u,Calls Tryz.prog 135 #[.agg #[.int .i64 (a+a'), .int .i64 (b+b'), .int .i64 (c+c'), .int .i64 (d+d')], .int .i64 0] u fun e w'=>e= .returned (.agg #[.int .i64 (a+a'), .int .i64 (b+b'), .int .i64 (c+c'), .int .i64 (d+d'), .int .i64 0])∧Below u.heap.size u w'):=fun u=>of135 _ _ _ _ _ u;have H131':Aside (∀u,Calls Tryz.prog 131 #[.agg #[.int .i64 (a+a'), .int .i64 (b+b'), .int .i64 (c+c'), .int .i64 (d+d'), .int .i64 0]] u fun e w'=>e= .returned (.agg #[.int .i64 (a+a'), .int .i64 (b+b'), .int .i64 (c+c'), .int .i64 (d+d'), .int .i64 0, .func (.func 149) #[] #[]])∧Below u.heap.size u w'):=fun u=>work131 _ _ _ _ _ u
 have H137:Aside (∀u,Calls Tryz.prog 137 #[.agg #[.int .i64 (a+a'), .int .i64 (b+b'), .int .i64 (c+c'), .int .i64 (d+d'), .int .i64 0, .func (.func 149) #[] #[]]] u (RetNumE (fun a9 b9 c9 d9 k9 r9=>Num.least ⟨a+a',b+b',c+c',d+d',0⟩=(⟨a9,b9,c9,d9,k9⟩,r9)) u)):=fun u=>least137 _ _ _ _ 0 u oM oM (by simp only[Tw,Bd];omega);have HBu2:=HBu;clear hres g1 g2 g3 g4 g5 g6 g7 g8 k1 k2 k3 k4 k5 k6 k7 k8;go_wp2_with fail
 (with_reducible refine(H135.out _).mono ?_)
 rintro e v1 ⟨rfl,hb1⟩;go_wp2_with fail
 (with_reducible refine(H131'.out _).mono ?_)
 rintro e v2 ⟨rfl,hb2⟩;go_wp2_with fail
 (with_reducible refine(H137.out _).mono ?_)
 rintro e v3 ⟨a9,b9,c9,d9,k9,r9,rfl,hP,hb3⟩;have hb:=below_then (below_then hb1 hb2) hb3;have hres:=HRes.out.below hb;obtain⟨t0,t1,t2,t3,t4,tf⟩:=hres.five;have HRes2:=Lib.hid hres;have Hb:=Lib.hid hb;clear hb hb1 hb2 hb3 hres
 go_wp2
 have hz:=HRes2.out.set5 a9 b9 c9 d9 k9;obtain⟨y0,y1,y2,y3,y4,_⟩:=hz.five;refine bodyPost_ret (v:= .tuple #[.agg #[a9,b9,c9,d9,k9],r9]) (by simp[results,Tryz.results210,go_sem,y0,y1,y2,y3,y4]) rfl ⟨?_,?_⟩
 · rw[hP.out]
 exact below_set5 (HB1.out.trans ((below_then HBu.out Hb.out).mono HB1.out.size)) (by have:=HQ.out;omega) _ _ _ _ _
end Go.Proofs.YtcoackmdmohnhaaGreatDoor
