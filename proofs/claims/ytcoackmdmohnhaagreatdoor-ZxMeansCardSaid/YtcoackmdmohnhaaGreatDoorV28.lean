/- The law: awake. -/
import Derived.Test.YtcoackmdmohnhaaGreatDoorV27
set_option linter.unusedVariables false
set_option linter.unusedSimpArgs false
set_option maxRecDepth 100000
set_option maxHeartbeats 8000000
namespace Go.Proofs.YtcoackmdmohnhaaGreatDoor
open Go.RowKit Go.Shelf
variable {N:Nat}
theorem rowsNew (W:World) (t1 t2 t3:TypeId):RowsRd (((W.alloc (.cells #[.int .i64 1, .int .i64 0, .int .i64 0, .int .i64 0, .int .i64 1, .int .i64 1, .int .i64 0, .int .i64 0, .int .i64 0, .int .i64 1] t1)).alloc (.cells #[.int .i64 1, .int .i64 0, .int .i64 0, .int .i64 0, .int .i64 1, .int .i64 (-1), .int .i64 0, .int .i64 0, .int .i64 0, .int .i64 1] t2)).alloc (.cells #[.slice (some ⟨W.heap.size,0,none⟩) 2 2, .slice (some ⟨W.heap.size+1,0,none⟩) 2 2] t3)) (some ⟨W.heap.size+1+1,0,none⟩) 2 [⟨some ⟨W.heap.size,0,none⟩,2,2⟩,⟨some ⟨W.heap.size+1,0,none⟩,2,2⟩] [[⟨1,0,0,0,1⟩,⟨1,0,0,0,1⟩],[⟨1,0,0,0,1⟩,⟨-1,0,0,0,1⟩]]:=by
 have B1:=(((Blk.new W #[.int .i64 1, .int .i64 0, .int .i64 0, .int .i64 0, .int .i64 1, .int .i64 1, .int .i64 0, .int .i64 0, .int .i64 0, .int .i64 1] t1).alloc (.cells #[.int .i64 1, .int .i64 0, .int .i64 0, .int .i64 0, .int .i64 1, .int .i64 (-1), .int .i64 0, .int .i64 0, .int .i64 0, .int .i64 1] t2)).alloc (.cells #[.slice (some ⟨W.heap.size,0,none⟩) 2 2, .slice (some ⟨W.heap.size+1,0,none⟩) 2 2] t3));have B2:=((Blk.new (W.alloc (.cells #[.int .i64 1, .int .i64 0, .int .i64 0, .int .i64 0, .int .i64 1, .int .i64 1, .int .i64 0, .int .i64 0, .int .i64 0, .int .i64 1] t1)) #[.int .i64 1, .int .i64 0, .int .i64 0, .int .i64 0, .int .i64 1, .int .i64 (-1), .int .i64 0, .int .i64 0, .int .i64 0, .int .i64 1] t2).alloc (.cells #[.slice (some ⟨W.heap.size,0,none⟩) 2 2, .slice (some ⟨W.heap.size+1,0,none⟩) 2 2] t3))
 have B3:=Blk.new ((W.alloc (.cells #[.int .i64 1, .int .i64 0, .int .i64 0, .int .i64 0, .int .i64 1, .int .i64 1, .int .i64 0, .int .i64 0, .int .i64 0, .int .i64 1] t1)).alloc (.cells #[.int .i64 1, .int .i64 0, .int .i64 0, .int .i64 0, .int .i64 1, .int .i64 (-1), .int .i64 0, .int .i64 0, .int .i64 0, .int .i64 1] t2)) #[.slice (some ⟨W.heap.size,0,none⟩) 2 2, .slice (some ⟨W.heap.size+1,0,none⟩) 2 2] t3;have hs:∀(V:World) (o:Obj),(V.alloc o).heap.size=V.heap.size+1:=fun V o=>by show (V.heap.push o).size=_;exact Array.size_push _
 simp only[hs]at B2 B3;refine⟨Rd.ofBlk (enc:=hvC) (xs:=[⟨some ⟨W.heap.size,0,none⟩,2,2⟩,⟨some ⟨W.heap.size+1,0,none⟩,2,2⟩]) B3 (fun _=>rfl) sI,rfl,?_⟩
 intro i h r hh hr
 match i with
 | 0=>
  cases hh;cases hr
  exact Rd.ofBlk (enc:=numC) (xs:=[⟨1,0,0,0,1⟩,⟨1,0,0,0,1⟩]) B1 (fun _=>rfl) sI
 | 1=>
  cases hh;cases hr
  exact Rd.ofBlk (enc:=numC) (xs:=[⟨1,0,0,0,1⟩,⟨-1,0,0,0,1⟩]) B2 (fun _=>rfl) sI
 |i+2=>cases hh
theorem rewNew (W:World) (t:TypeId):Rd 3 rwC (W.alloc (.cells #[.int .i64 1, .int .i64 1, .int .i64 0, .int .i64 4, .int .i64 1, .int .i64 0] t)) (some ⟨W.heap.size,0,none⟩) 2 [⟨1,1,0⟩,⟨4,1,0⟩]:=
 Rd.ofBlk (enc:=rwC) (xs:=[⟨1,1,0⟩,⟨4,1,0⟩]) (Blk.new W #[.int .i64 1, .int .i64 1, .int .i64 0, .int .i64 4, .int .i64 1, .int .i64 0] t) (fun _=>rfl) sI
theorem xe71_0 {p:Prop} (h:p:=by
 obtain⟨g,h1,h2,h3⟩:=ht;refine⟨g,h1,h2,?_⟩
 by_cases hi10:i=10
 · subst hi10;obtain⟨z,a0,a1,a2,a3,a4,a5,a6,a7,a8,g1,g2,g3⟩:=hR;exact h3.touch g2 (fun hm=>by simp at hm;subst hm;exact blk_ty h3 g1 dE)
 exact h3.below (by have h9:=hR;split at h9<;>first|exact(hi10 rfl).elim|exact h9)):p:=h
theorem xe71_1 {p:Prop} (h:p:=by
 obtain⟨a0,a1,a2,a3,a4,a5,a6,a7,a8,af⟩:=(aBK3.out.below hG).nine;obtain⟨b0,b1,b2,b3,b4,b5,b6,b7,b8,bf⟩:=(bBK2.out.below hG).nine;obtain⟨c0,c1,c2,c3,c4,cf⟩:=(cBK2.out.below hG).five;obtain⟨d0,d1,d2,d3,d4,d5,d6,d7,d8,df⟩:=(dBK.out.below hG).nine;go_simp
 exact hK _ _ rfl bR hG):p:=h
theorem awake11 (w:World) (hG:Glob N w) (hP:Phs N w) (hN:N≤w.heap.size):
  Calls Tryz.prog 11 #[] w fun e w'=>e= .returned (.bool true)∧Below w.heap.size w w':=by
 have HG:Aside (∀V,Below w.heap.size w V→Glob N V∧Phs N V∧N≤V.heap.size):=fun V hV=>⟨hG.below hV hN,hP.below hV hN,Nat.le_trans hN hV.size⟩;have HQ0:Aside (Below w.heap.size w w):=Below.refl _ _;clear hG hP hN;go_enter Tryz.func11,Tryz.ntmps11
 have Ta0:Aside True:=trivial
 go_upto_region 2 with(first|(go_at_call 47;have T9:=Ta0.out;clear T9 Ta0;(with_reducible refine(on47 _ _ _ _ _).mono ?_);rintro e aa0 ⟨rfl,aha0⟩)|(go_at_call 46;(with_reducible refine(one46 _ _ _ _ _).mono ?_);rintro e ab ⟨rfl,ahb⟩)|(go_at_call 19;have HV:=(HG.out _ (below_then (below_then (below_then (below_then HQ0.out (bR.alloc (Nat.le_refl _) _)) aha0) (bR.alloc (Nat.le_refl _) _)) ahb));(with_reducible refine(ofZ _ _ _ (by simpa using ((Blk.new aa0 #[.int .i64 3, .slice (some ⟨w.heap.size,0,none⟩) 1 1, .int .i64 0, .int .i64 0] 70).below ahb)) (by simpa using ((((Blk.new w #[.int .i64 0] 3).below aha0).alloc (.cells #[.int .i64 3, .slice (some ⟨w.heap.size,0,none⟩) 1 1, .int .i64 0, .int .i64 0] 70)).below ahb)) HV.1 HV.2.1 HV.2.2).mono ?_);rintro e ac ⟨av,rfl,aho,ahc⟩;have aQ:Aside (Below w.heap.size w ac):=below_then (below_then (below_then (below_then (below_then HQ0.out (bR.alloc (Nat.le_refl _) _)) aha0) (bR.alloc (Nat.le_refl _) _)) ahb) ahc;have aO:Aside (DRd ac av dgZ):=aho.rd;clear HV aho))
 obtain⟨aW,haW⟩:∃aW,aW=ac.alloc (.cells (a9 av dgZ.sc) 28):=⟨_,rfl⟩;rw[←haW];have aal:Below ac.heap.size ac aW:=by rw[haW];exact bR.alloc (Nat.le_refl _) _
 have aBK:Aside (Blk aW ac.heap.size (l9 av dgZ.sc) 28):=by rw[haW];exact Blk.new _ _ _
 have aD:Aside (DRd aW av dgZ):=aO.out.below aal;have aQ2:Aside (Below w.heap.size w aW):=below_then aQ.out aal;have aL:Aside (Below w.heap.size w aW):=below_then (below_then (below_then (below_then (below_then (below_then (Below.refl w.heap.size w) (bR.alloc (Nat.le_refl _) _)) aha0) (bR.alloc (Nat.le_refl _) _)) ahb) ahc) aal;generalize ac.heap.size=ax at *;clear haW aal aO aQ ahc ahb aha0;have Tb0:Aside True:=trivial
 go_upto_region 3 with(first|(go_at_call 47;have T9:=Tb0.out;clear T9 Tb0;(with_reducible refine(on47 _ _ _ _ _).mono ?_);rintro e ba0 ⟨rfl,bha0⟩)|(go_at_call 46;(with_reducible refine(one46 _ _ _ _ _).mono ?_);rintro e bb ⟨rfl,bhb⟩)|(go_at_call 19;have HV:=(HG.out _ (below_then (below_then (below_then (below_then aQ2.out (bR.alloc (Nat.le_refl _) _)) bha0) (bR.alloc (Nat.le_refl _) _)) bhb));(with_reducible refine(ofCX _ _ _ (by simpa using ((Blk.new ba0 #[.int .i64 9, .slice (some ⟨aW.heap.size,0,none⟩) 2 2, .int .i64 0, .int .i64 0] 70).below bhb)) (by simpa using ((((Blk.new aW #[.int .i64 0, .int .i64 1] 3).below bha0).alloc (.cells #[.int .i64 9, .slice (some ⟨aW.heap.size,0,none⟩) 2 2, .int .i64 0, .int .i64 0] 70)).below bhb)) HV.1 HV.2.1 HV.2.2).mono ?_);rintro e bc ⟨bv,rfl,bho,bhc⟩;have bQ:Aside (Below w.heap.size w bc):=below_then (below_then (below_then (below_then (below_then aQ2.out (bR.alloc (Nat.le_refl _) _)) bha0) (bR.alloc (Nat.le_refl _) _)) bhb) bhc;have bO:Aside (DRd bc bv dgCX):=bho.rd;clear HV bho))
 obtain⟨bW,hbW⟩:∃bW,bW=bc.alloc (.cells (a9 bv dgCX.sc) 28):=⟨_,rfl⟩;rw[←hbW];have bal:Below bc.heap.size bc bW:=by rw[hbW];exact bR.alloc (Nat.le_refl _) _
 have bBK:Aside (Blk bW bc.heap.size (l9 bv dgCX.sc) 28):=by rw[hbW];exact Blk.new _ _ _
 have bD:Aside (DRd bW bv dgCX):=bO.out.below bal;have bQ2:Aside (Below w.heap.size w bW):=below_then bQ.out bal;have bL:Aside (Below aW.heap.size aW bW):=below_then (below_then (below_then (below_then (below_then (below_then (Below.refl aW.heap.size aW) (bR.alloc (Nat.le_refl _) _)) bha0) (bR.alloc (Nat.le_refl _) _)) bhb) bhc) bal;generalize bc.heap.size=bx at *;clear hbW bal bO bQ bhc bhb bha0;obtain⟨cW,hcW⟩:∃cW,cW=bW.alloc (.cells #[.int .i64 1, .int .i64 0, .int .i64 0, .int .i64 0, .int .i64 0] 26):=⟨_,rfl⟩;have cal:Below bW.heap.size bW cW:=by rw[hcW];exact bR.alloc (Nat.le_refl _) _
 have cBK:Aside (Blk cW bW.heap.size [.int .i64 1, .int .i64 0, .int .i64 0, .int .i64 0, .int .i64 0] 26):=by rw[hcW];exact Blk.new _ _ _
 have cL:Aside (Below bW.heap.size bW cW):=cal;have cQ2:Aside (Below w.heap.size w cW):=below_then bQ2.out cal;have aBK2:Aside (Blk cW ax (l9 av dgZ.sc) 28):=(aBK.out.below bL.out).below cal
 go_upto_region 4 with fail
 rw[←hcW];clear hcW;obtain⟨cx,hcx⟩:∃cx,cx=bW.heap.size:=⟨_,rfl⟩;rw[←hcx]at cBK ⊢;clear hcx;have HK:Below cW.heap.size cW cW:=Below.refl _ _
 go_upto_region 5 with(first|(go_at_call 48;(with_reducible refine(end48 _).mono ?_);rintro e dz ⟨rfl,hbz⟩;replace HK:=below_then HK hbz;clear hbz)|(go_at_call 49;(with_reducible refine(z49 _ _).mono ?_);rintro e dz ⟨rfl,hbz⟩;replace HK:=below_then HK hbz;clear hbz)|(go_at_call 50;(with_reducible refine(x50 _ _).mono ?_);rintro e dz ⟨rfl,hbz⟩;replace HK:=below_then HK hbz;clear hbz))
 obtain⟨dW,hdW⟩:∃dW,dW=(((((dz.alloc (.cells #[.int .i64 0, .int .i64 0, .int .i64 0, .int .i64 0, .int .i64 1, .int .i64 0, .int .i64 2, .int .i64 0, .int .i64 0, .int .i64 0, .int .i64 0, .int .i64 0] 73)).alloc (.cells #[.int .i64 0, .int .i64 2, .bool false, .int .i64 1, .int .i64 3, .bool false, .int .i64 2, .int .i64 3, .bool false, .int .i64 2, .int .i64 4, .bool false, .int .i64 3, .int .i64 5, .bool false] 77)).alloc (.cells #[.int .i64 0, .int .i64 1] 3)).alloc (.cells #[.int .i64 4, .int .i64 5] 3)).alloc (.cells #[.slice (some ⟨dz.heap.size,0,none⟩) 6 6, .slice (some ⟨dz.heap.size+1,0,none⟩) 5 5, .slice (some ⟨dz.heap.size+1+1,0,none⟩) 2 2, .slice (some ⟨dz.heap.size+1+1+1,0,none⟩) 2 2, .int .i64 0, .int .i64 1, .int .i64 0, .int .i64 (-1), .int .i64 0] 28)):=⟨_,rfl⟩;rw[←hdW]
 have dB0:Blk dW (dz.heap.size) [.int .i64 0, .int .i64 0, .int .i64 0, .int .i64 0, .int .i64 1, .int .i64 0, .int .i64 2, .int .i64 0, .int .i64 0, .int .i64 0, .int .i64 0, .int .i64 0] 73:=by
  rw[hdW];have h9:=(((((Blk.new dz #[.int .i64 0, .int .i64 0, .int .i64 0, .int .i64 0, .int .i64 1, .int .i64 0, .int .i64 2, .int .i64 0, .int .i64 0, .int .i64 0, .int .i64 0, .int .i64 0] 73).alloc (.cells #[.int .i64 0, .int .i64 2, .bool false, .int .i64 1, .int .i64 3, .bool false, .int .i64 2, .int .i64 3, .bool false, .int .i64 2, .int .i64 4, .bool false, .int .i64 3, .int .i64 5, .bool false] 77)).alloc (.cells #[.int .i64 0, .int .i64 1] 3)).alloc (.cells #[.int .i64 4, .int .i64 5] 3)).alloc (.cells #[.slice (some ⟨dz.heap.size,0,none⟩) 6 6, .slice (some ⟨dz.heap.size+1,0,none⟩) 5 5, .slice (some ⟨dz.heap.size+1+1,0,none⟩) 2 2, .slice (some ⟨dz.heap.size+1+1+1,0,none⟩) 2 2, .int .i64 0, .int .i64 1, .int .i64 0, .int .i64 (-1), .int .i64 0] 28));simpa using h9
 have dB1:Blk dW (dz.heap.size+1) [.int .i64 0, .int .i64 2, .bool false, .int .i64 1, .int .i64 3, .bool false, .int .i64 2, .int .i64 3, .bool false, .int .i64 2, .int .i64 4, .bool false, .int .i64 3, .int .i64 5, .bool false] 77:=by
  rw[hdW];have h9:=((((Blk.new (dz.alloc (.cells #[.int .i64 0, .int .i64 0, .int .i64 0, .int .i64 0, .int .i64 1, .int .i64 0, .int .i64 2, .int .i64 0, .int .i64 0, .int .i64 0, .int .i64 0, .int .i64 0] 73)) #[.int .i64 0, .int .i64 2, .bool false, .int .i64 1, .int .i64 3, .bool false, .int .i64 2, .int .i64 3, .bool false, .int .i64 2, .int .i64 4, .bool false, .int .i64 3, .int .i64 5, .bool false] 77).alloc (.cells #[.int .i64 0, .int .i64 1] 3)).alloc (.cells #[.int .i64 4, .int .i64 5] 3)).alloc (.cells #[.slice (some ⟨dz.heap.size,0,none⟩) 6 6, .slice (some ⟨dz.heap.size+1,0,none⟩) 5 5, .slice (some ⟨dz.heap.size+1+1,0,none⟩) 2 2, .slice (some ⟨dz.heap.size+1+1+1,0,none⟩) 2 2, .int .i64 0, .int .i64 1, .int .i64 0, .int .i64 (-1), .int .i64 0] 28));simpa using h9
 have dB2:Blk dW (dz.heap.size+1+1) [.int .i64 0, .int .i64 1] 3:=by
  rw[hdW];have h9:=(((Blk.new ((dz.alloc (.cells #[.int .i64 0, .int .i64 0, .int .i64 0, .int .i64 0, .int .i64 1, .int .i64 0, .int .i64 2, .int .i64 0, .int .i64 0, .int .i64 0, .int .i64 0, .int .i64 0] 73)).alloc (.cells #[.int .i64 0, .int .i64 2, .bool false, .int .i64 1, .int .i64 3, .bool false, .int .i64 2, .int .i64 3, .bool false, .int .i64 2, .int .i64 4, .bool false, .int .i64 3, .int .i64 5, .bool false] 77)) #[.int .i64 0, .int .i64 1] 3).alloc (.cells #[.int .i64 4, .int .i64 5] 3)).alloc (.cells #[.slice (some ⟨dz.heap.size,0,none⟩) 6 6, .slice (some ⟨dz.heap.size+1,0,none⟩) 5 5, .slice (some ⟨dz.heap.size+1+1,0,none⟩) 2 2, .slice (some ⟨dz.heap.size+1+1+1,0,none⟩) 2 2, .int .i64 0, .int .i64 1, .int .i64 0, .int .i64 (-1), .int .i64 0] 28));simpa using h9
 have dB3:Blk dW (dz.heap.size+1+1+1) [.int .i64 4, .int .i64 5] 3:=by
  rw[hdW];have h9:=((Blk.new (((dz.alloc (.cells #[.int .i64 0, .int .i64 0, .int .i64 0, .int .i64 0, .int .i64 1, .int .i64 0, .int .i64 2, .int .i64 0, .int .i64 0, .int .i64 0, .int .i64 0, .int .i64 0] 73)).alloc (.cells #[.int .i64 0, .int .i64 2, .bool false, .int .i64 1, .int .i64 3, .bool false, .int .i64 2, .int .i64 3, .bool false, .int .i64 2, .int .i64 4, .bool false, .int .i64 3, .int .i64 5, .bool false] 77)).alloc (.cells #[.int .i64 0, .int .i64 1] 3)) #[.int .i64 4, .int .i64 5] 3).alloc (.cells #[.slice (some ⟨dz.heap.size,0,none⟩) 6 6, .slice (some ⟨dz.heap.size+1,0,none⟩) 5 5, .slice (some ⟨dz.heap.size+1+1,0,none⟩) 2 2, .slice (some ⟨dz.heap.size+1+1+1,0,none⟩) 2 2, .int .i64 0, .int .i64 1, .int .i64 0, .int .i64 (-1), .int .i64 0] 28));simpa using h9
 have dB4:Blk dW (dz.heap.size+1+1+1+1) [.slice (some ⟨dz.heap.size,0,none⟩) 6 6, .slice (some ⟨dz.heap.size+1,0,none⟩) 5 5, .slice (some ⟨dz.heap.size+1+1,0,none⟩) 2 2, .slice (some ⟨dz.heap.size+1+1+1,0,none⟩) 2 2, .int .i64 0, .int .i64 1, .int .i64 0, .int .i64 (-1), .int .i64 0] 28:=by
  rw[hdW];have h9:=(Blk.new ((((dz.alloc (.cells #[.int .i64 0, .int .i64 0, .int .i64 0, .int .i64 0, .int .i64 1, .int .i64 0, .int .i64 2, .int .i64 0, .int .i64 0, .int .i64 0, .int .i64 0, .int .i64 0] 73)).alloc (.cells #[.int .i64 0, .int .i64 2, .bool false, .int .i64 1, .int .i64 3, .bool false, .int .i64 2, .int .i64 3, .bool false, .int .i64 2, .int .i64 4, .bool false, .int .i64 3, .int .i64 5, .bool false] 77)).alloc (.cells #[.int .i64 0, .int .i64 1] 3)).alloc (.cells #[.int .i64 4, .int .i64 5] 3)) #[.slice (some ⟨dz.heap.size,0,none⟩) 6 6, .slice (some ⟨dz.heap.size+1,0,none⟩) 5 5, .slice (some ⟨dz.heap.size+1+1,0,none⟩) 2 2, .slice (some ⟨dz.heap.size+1+1+1,0,none⟩) 2 2, .int .i64 0, .int .i64 1, .int .i64 0, .int .i64 (-1), .int .i64 0] 28);simpa using h9
 have hbd:Below dz.heap.size dz dW:=by rw[hdW];exact((((bR.alloc (by simp;try omega) _).alloc (by simp;try omega) _).alloc (by simp;try omega) _).alloc (by simp;try omega) _).alloc (by simp;try omega) _
 have dL:Aside (Below cW.heap.size cW dW):=below_then HK hbd;have dQ:Aside (Below w.heap.size w dW):=below_then cQ2.out dL.out;clear hdW HK hbd;generalize dz.heap.size+1+1+1+1=dx at *;generalize dz.heap.size+1+1+1=s3 at *;generalize dz.heap.size+1+1=s2 at *;generalize dz.heap.size+1=s1 at *;generalize dz.heap.size=s0 at *;have dD:Aside (DRd dW ⟨some ⟨s0,0,none⟩,6,6,some ⟨s1,0,none⟩,5,5,some ⟨s2,0,none⟩,2,2,some ⟨s3,0,none⟩,2,2⟩ dgCX):=⟨Rd.ofBlk dB0 (fun _=>rfl) (by simp[dgCX]),Rd.ofBlk dB1 (fun _=>rfl) (by simp[dgCX]),Rd.ofBlk dB2 (fun _=>rfl) (by simp[dgCX]),Rd.ofBlk dB3 (fun _=>rfl) (by simp[dgCX]),by simp,by simp,by simp,by simp⟩;have bBK2:Aside (Blk dW bx (l9 bv dgCX.sc) 28):=(bBK.out.below cL.out).below dL.out;have aBK3:Aside (Blk dW ax (l9 av dgZ.sc) 28):=aBK2.out.below dL.out
 have cBK2:Aside (Blk dW cx [.int .i64 1, .int .i64 0, .int .i64 0, .int .i64 0, .int .i64 0] 26):=cBK.out.below dL.out;have aD2:Aside (DRd dW av dgZ):=((aD.out.below bL.out).below cL.out).below dL.out;have bD2:Aside (DRd dW bv dgCX):=(bD.out.below cL.out).below dL.out;have dBK:Aside (Blk dW dx [.slice (some ⟨s0,0,none⟩) 6 6, .slice (some ⟨s1,0,none⟩) 5 5, .slice (some ⟨s2,0,none⟩) 2 2, .slice (some ⟨s3,0,none⟩) 2 2, .int .i64 0, .int .i64 1, .int .i64 0, .int .i64 (-1), .int .i64 0] 28):=dB4;clear dB0 dB1 dB2 dB3 dB4 aBK aBK2 bBK cBK aD bD;obtain⟨vw,hvw⟩:∃vw:DV,vw=⟨some ⟨s0,0,none⟩,6,6,some ⟨s1,0,none⟩,5,5,some ⟨s2,0,none⟩,2,2,some ⟨s3,0,none⟩,2,2⟩:=⟨_,rfl⟩;rw[←hvw]at dD;have HVW:Aside (vw=⟨some ⟨s0,0,none⟩,6,6,some ⟨s1,0,none⟩,5,5,some ⟨s2,0,none⟩,2,2,some ⟨s3,0,none⟩,2,2⟩):=hvw;clear hvw
 refine wp_region_FG [(57,28)] (fun l u=>Below dW.heap.size dW u) (fun i u u'=>Below u.heap.size u u') (fun j x u=>match j with|0=>x 57= .int .i64 0|1=>x 58= .bool false|2=>x 59= .bool false|3=>x 60= .agg (a9 av dgZ.sc)|4=>x 61= .agg #[.int .i64 0, .int .i64 0]|5=>x 62= .agg #[.int .i64 1, .int .i64 4]|6=>x 63= .agg #[.int .i64 0, .int .i64 0]|7=>∃z,x 64= .slice (some ⟨z,0,none⟩) 3 3∧Rd 2 spC u (some ⟨z,0,none⟩) 3 [(⟨0,0⟩:Spider),⟨1,4⟩,⟨0,0⟩]|8=>x 65= .agg #[.int .i64 0, .int .i64 1, .bool false]|9=>x 66= .agg #[.int .i64 1, .int .i64 2, .bool false]|10=>∃z,x 67= .slice (some ⟨z,0,none⟩) 2 2∧Rd 3 lnC u (some ⟨z,0,none⟩) 2 [(⟨0,1,false⟩:Line),⟨1,2,false⟩]|11=>∃z,x 68= .slice (some ⟨z,0,none⟩) 1 1∧Rd 1 inC u (some ⟨z,0,none⟩) 1 [(0:Int)]|12=>∃z,x 69= .slice (some ⟨z,0,none⟩) 1 1∧Rd 1 inC u (some ⟨z,0,none⟩) 1 [(2:Int)]|13=>x 70= .agg #[.int .i64 1, .int .i64 0, .int .i64 0, .int .i64 0, .int .i64 0]|14=>∃v',x 71= .agg #[.slice v'.A1 v'.n1 v'.c1, .slice v'.A2 v'.n2 v'.c2, .slice v'.A3 v'.n3 v'.c3, .slice v'.A4 v'.n4 v'.c4, .int .i64 1, .int .i64 0, .int .i64 0, .int .i64 0, .int .i64 0]∧DRd u v' dgZ|15=>x 72= .bool true|16=>x 73= .bool false|17=>x 74= .bool false|18=>x 75= .bool false|19=>x 76= .int .i64 0|20=>x 77= .bool false|21=>x 78= .bool false|22=>x 79= .bool false|23=>x 80= .agg (a9 bv dgCX.sc)|24=>x 81= .agg #[.slice (some ⟨s0,0,none⟩) 6 6, .slice (some ⟨s1,0,none⟩) 5 5, .slice (some ⟨s2,0,none⟩) 2 2, .slice (some ⟨s3,0,none⟩) 2 2, .int .i64 0, .int .i64 1, .int .i64 0, .int .i64 (-1), .int .i64 0]|25=>x 82= .bool true|26=>x 83= .bool false|27=>x 84= .bool false|_=>True) ?h0 ?hkeep ?hstep ?d0
 case h0=>exact bR.drew
 case hkeep=>
  intro j i x l u u' hj hi hpre ht hG hR
  by_cases hj7:j=7
  · subst hj7;obtain⟨g9,h1,h2⟩:=ht;exact⟨g9,h1,h2.below hR⟩
  by_cases hj10:j=10
  · subst hj10;obtain⟨g9,h1,h2⟩:=ht;exact⟨g9,h1,h2.below hR⟩
  by_cases hj11:j=11
  · subst hj11;obtain⟨g9,h1,h2⟩:=ht;exact⟨g9,h1,h2.below hR⟩
  by_cases hj12:j=12
  · subst hj12;obtain⟨g9,h1,h2⟩:=ht;exact⟨g9,h1,h2.below hR⟩
  by_cases hj14:j=14
  · subst hj14;obtain⟨g9,h1,h2⟩:=ht;exact⟨g9,h1,h2.below hR⟩
  exact(by have h9:=ht;clear ht;split at h9<;>first|exact h9|exact(hj7 rfl).elim|exact(hj10 rfl).elim|exact(hj11 rfl).elim|exact(hj12 rfl).elim|exact(hj14 rfl).elim)
 case hstep=>
  dsimp only[fil,fls,fl,List.toList_toArray,Nat.reduceAdd];refine⟨?_,?_,?_,?c3,?c4,?c5,?c6,?c7,?c8,?c9,?c10,?c11,?c12,?c13,?c14,?c15,?c16,?_,?_,?c19,?c20,?_,?_,?c23,?c24,?c25,?c26,?_,trivial⟩
  all_goals intro l x u hG hno hli hpre hd K hK
  case c3|c13=>
   have e2:x 59= .bool false:=hd ⟨2, .guard⟩ sI rfl;clear hd;refine ite_on (gcond_on rfl kR e2) ?_
   simp only[e2]at hK ⊢;exact xe71_1
  case c4=>
   have e2:x 59= .bool false:=hd ⟨2, .chain⟩ sI rfl;clear hd;refine ite_on (gcond_on rfl kR e2) ?_
   simp only[e2]at hK ⊢;go_simp
   (with_reducible refine(end48 u).mono ?_);rintro e u2 ⟨rfl,hb⟩
   exact hK _ _ rfl hb (below_then hG hb)
  case c5=>
   have e2:x 59= .bool false:=hd ⟨2, .guard⟩ sI rfl;clear hd;refine ite_on (gcond_on rfl kR e2) ?_
   simp only[e2]at hK ⊢;go_simp
   (with_reducible refine(z49 4 u).mono ?_);rintro e u2 ⟨rfl,hb⟩
   exact hK _ _ rfl hb (below_then hG hb)
  case c6=>
   have e2:x 59= .bool false:=hd ⟨2, .guard⟩ sI rfl;clear hd;refine ite_on (gcond_on rfl kR e2) ?_
   simp only[e2]at hK ⊢;go_simp
   (with_reducible refine(end48 u).mono ?_);rintro e u2 ⟨rfl,hb⟩
   exact hK _ _ rfl hb (below_then hG hb)
  case c7=>
   have e4:x 61= .agg #[.int .i64 0, .int .i64 0]:=hd ⟨4, .data⟩ sI rfl;have e5:x 62= .agg #[.int .i64 1, .int .i64 4]:=hd ⟨5, .data⟩ sI rfl;have e6:x 63= .agg #[.int .i64 0, .int .i64 0]:=hd ⟨6, .data⟩ sI rfl;have e2:x 59= .bool false:=hd ⟨2, .guard⟩ sI rfl;clear hd;refine ite_on (gcond_on rfl kR e2) ?_
   simp only[e4,e5,e6,e2]at hK ⊢;go_simp
   exact hK _ _ ⟨_,rfl,Rd.ofBlk (xs:=[(⟨0,0⟩:Spider),⟨1,4⟩,⟨0,0⟩]) (enc:=spC) (by simpa [spC] using Blk.new u #[.int .i64 0, .int .i64 0, .int .i64 1, .int .i64 4, .int .i64 0, .int .i64 0] 73) (fun _=>rfl) sI⟩ (bR.alloc (Nat.le_refl _) _) (below_then hG (bR.alloc (Nat.le_refl _) _))
  case c8|c9=>
   have e2:x 59= .bool false:=hd ⟨2, .guard⟩ sI rfl;clear hd;refine ite_on (gcond_on rfl kR e2) ?_
   simp only[e2]at hK ⊢;go_simp
   exact hK _ _ rfl bR hG
  case c10=>
   have e8:x 65= .agg #[.int .i64 0, .int .i64 1, .bool false]:=hd ⟨8, .data⟩ sI rfl;have e9:x 66= .agg #[.int .i64 1, .int .i64 2, .bool false]:=hd ⟨9, .data⟩ sI rfl;have e2:x 59= .bool false:=hd ⟨2, .guard⟩ sI rfl;clear hd;refine ite_on (gcond_on rfl kR e2) ?_
   simp only[e8,e9,e2]at hK ⊢;go_simp
   exact hK _ _ ⟨_,rfl,Rd.ofBlk (xs:=[(⟨0,1,false⟩:Line),⟨1,2,false⟩]) (enc:=lnC) (by simpa [lnC] using Blk.new u #[.int .i64 0, .int .i64 1, .bool false, .int .i64 1, .int .i64 2, .bool false] 77) (fun _=>rfl) sI⟩ (bR.alloc (Nat.le_refl _) _) (below_then hG (bR.alloc (Nat.le_refl _) _))
  case c11=>
   have e2:x 59= .bool false:=hd ⟨2, .guard⟩ sI rfl;clear hd;refine ite_on (gcond_on rfl kR e2) ?_
   simp only[e2]at hK ⊢;go_simp
   exact hK _ _ ⟨_,rfl,Rd.ofBlk (xs:=[(0:Int)]) (enc:=inC) (by simpa [inC] using Blk.new u #[.int .i64 0] 3) (fun _=>rfl) sI⟩ (bR.alloc (Nat.le_refl _) _) (below_then hG (bR.alloc (Nat.le_refl _) _))
  case c12=>
   have e2:x 59= .bool false:=hd ⟨2, .guard⟩ sI rfl;clear hd;refine ite_on (gcond_on rfl kR e2) ?_
   simp only[e2]at hK ⊢;go_simp
   exact hK _ _ ⟨_,rfl,Rd.ofBlk (xs:=[(2:Int)]) (enc:=inC) (by simpa [inC] using Blk.new u #[.int .i64 2] 3) (fun _=>rfl) sI⟩ (bR.alloc (Nat.le_refl _) _) (below_then hG (bR.alloc (Nat.le_refl _) _))
  case c14=>
   have e7:∃z,x 64= .slice (some ⟨z,0,none⟩) 3 3∧Rd 2 spC u (some ⟨z,0,none⟩) 3 [(⟨0,0⟩:Spider),⟨1,4⟩,⟨0,0⟩]:=hd ⟨7, .data⟩ sI rfl;have e10:∃z,x 67= .slice (some ⟨z,0,none⟩) 2 2∧Rd 3 lnC u (some ⟨z,0,none⟩) 2 [(⟨0,1,false⟩:Line),⟨1,2,false⟩]:=hd ⟨10, .data⟩ sI rfl;have e11:∃z,x 68= .slice (some ⟨z,0,none⟩) 1 1∧Rd 1 inC u (some ⟨z,0,none⟩) 1 [(0:Int)]:=hd ⟨11, .data⟩ sI rfl;have e12:∃z,x 69= .slice (some ⟨z,0,none⟩) 1 1∧Rd 1 inC u (some ⟨z,0,none⟩) 1 [(2:Int)]:=hd ⟨12, .data⟩ sI rfl;have e13:x 70= .agg #[.int .i64 1, .int .i64 0, .int .i64 0, .int .i64 0, .int .i64 0]:=hd ⟨13, .data⟩ sI rfl;have e2:x 59= .bool false:=hd ⟨2, .guard⟩ sI rfl;clear hd;refine ite_on (gcond_on rfl kR e2) ?_
   simp only[e13,e2]at hK ⊢;obtain⟨g0,h64,r0⟩:=e7;obtain⟨g1,h67,r1⟩:=e10;obtain⟨g2,h68,r2⟩:=e11;obtain⟨g3,h69,r3⟩:=e12;generalize x 64=y0 at h64 hK ⊢;subst h64;generalize x 67=y1 at h67 hK ⊢;subst h67;generalize x 68=y2 at h68 hK ⊢;subst h68;generalize x 69=y3 at h69 hK ⊢;subst h69;have HD9:Aside (DRd u ⟨some ⟨g0,0,none⟩,3,3,some ⟨g1,0,none⟩,2,2,some ⟨g2,0,none⟩,1,1,some ⟨g3,0,none⟩,1,1⟩ dgZ):=⟨r0,r1,r2,r3,by simp,by simp,by simp,by simp⟩;clear r0 r1 r2 r3;go_simp
   exact hK _ _ ⟨_,rfl,HD9.out⟩ bR hG
  case c15=>
   have e3:x 60= .agg (a9 av dgZ.sc):=hd ⟨3, .data⟩ sI rfl;have e14:∃v',x 71= .agg #[.slice v'.A1 v'.n1 v'.c1, .slice v'.A2 v'.n2 v'.c2, .slice v'.A3 v'.n3 v'.c3, .slice v'.A4 v'.n4 v'.c4, .int .i64 1, .int .i64 0, .int .i64 0, .int .i64 0, .int .i64 0]∧DRd u v' dgZ:=hd ⟨14, .data⟩ sI rfl;have e2:x 59= .bool false:=hd ⟨2, .guard⟩ sI rfl;clear hd;refine ite_on (gcond_on rfl kR e2) ?_
   simp only[e3,e2]at hK ⊢;obtain⟨v',h71,hD⟩:=e14;generalize x 71=y0 at h71 hK ⊢;subst h71;have HS:Calls Tryz.prog 16 #[.agg (a9 av dgZ.sc), .agg #[.slice v'.A1 v'.n1 v'.c1, .slice v'.A2 v'.n2 v'.c2, .slice v'.A3 v'.n3 v'.c3, .slice v'.A4 v'.n4 v'.c4, .int .i64 1, .int .i64 0, .int .i64 0, .int .i64 0, .int .i64 0]] u (fun r w'=>r= .returned (.bool true)∧Below u.heap.size u w'):=same16 av v' dgZ dgZ u (aD2.out.below hG) hD;go_simp
   (with_reducible refine HS.mono ?_);rintro e u2 ⟨rfl,hb⟩
   exact hK _ _ rfl hb (below_then hG hb)
  case c16=>
   have e15:x 72= .bool true:=hd ⟨15, .data⟩ sI rfl;have e2:x 59= .bool false:=hd ⟨2, .guard⟩ sI rfl;clear hd;refine ite_on (gcond_on rfl kR e2) ?_
   simp only[e15,e2]at hK ⊢;go_simp
   exact hK _ _ rfl bR hG
  case c19=>
   have e18:x 75= .bool false:=hd ⟨18, .guard⟩ sI rfl;clear hd;refine ite_on (gcond_on rfl kR e18) ?_
   simp only[e18]at hK ⊢;go_simp
   exact hK _ _ rfl bR hG
  case c20=>
   have e19:x 76= .int .i64 0:=hd ⟨19, .data⟩ sI rfl;have e18:x 75= .bool false:=hd ⟨18, .guard⟩ sI rfl;clear hd;refine ite_on (gcond_on rfl kR e18) ?_
   simp only[e19,e18]at hK ⊢;go_simp
   exact hK _ _ rfl bR hG
  case c23|c24=>
   have e22:x 79= .bool false:=hd ⟨22, .guard⟩ sI rfl;clear hd;refine ite_on (gcond_on rfl kR e22) ?_
   simp only[e22]at hK ⊢;exact xe71_1
  case c25=>
   have e23:x 80= .agg (a9 bv dgCX.sc):=hd ⟨23, .data⟩ sI rfl;have e24:x 81= .agg #[.slice (some ⟨s0,0,none⟩) 6 6, .slice (some ⟨s1,0,none⟩) 5 5, .slice (some ⟨s2,0,none⟩) 2 2, .slice (some ⟨s3,0,none⟩) 2 2, .int .i64 0, .int .i64 1, .int .i64 0, .int .i64 (-1), .int .i64 0]:=hd ⟨24, .data⟩ sI rfl;have e22:x 79= .bool false:=hd ⟨22, .chain⟩ sI rfl;clear hd;refine ite_on (gcond_on rfl kR e22) ?_
   simp only[e23,e24,e22]at hK ⊢
   have HS:Calls Tryz.prog 16 #[.agg (a9 bv dgCX.sc), .agg #[.slice (some ⟨s0,0,none⟩) 6 6, .slice (some ⟨s1,0,none⟩) 5 5, .slice (some ⟨s2,0,none⟩) 2 2, .slice (some ⟨s3,0,none⟩) 2 2, .int .i64 0, .int .i64 1, .int .i64 0, .int .i64 (-1), .int .i64 0]] u (fun r w'=>r= .returned (.bool true)∧Below u.heap.size u w'):=by
    have h9:=same16 bv vw dgCX dgCX u (bD2.out.below hG) (dD.out.below hG);rw[HVW.out]at h9;exact h9
   go_simp
   (with_reducible refine HS.mono ?_);rintro e u2 ⟨rfl,hb⟩
   exact hK _ _ rfl hb (below_then hG hb)
  case c26=>
   have e25:x 82= .bool true:=hd ⟨25, .data⟩ sI rfl;have e22:x 79= .bool false:=hd ⟨22, .guard⟩ sI rfl;clear hd;refine ite_on (gcond_on rfl kR e22) ?_
   simp only[e25,e22]at hK ⊢;go_simp
   exact hK _ _ rfl bR hG
  all_goals
   dsimp only at hd;simp only[eB]at hd
   try simp only[hd]at hK ⊢
   refine ite_on (gcond_none rfl) ?_
   go_simp
   exact hK _ _ rfl bR hG
 dsimp only[fil,fls,fl,List.toList_toArray,Nat.reduceAdd];rintro l x u hall hG ⟨_,_,_,_,_,_,_,_,_,_,_,_,_,_,_,_,_,_,_,_,_,_,_,_,_,_,_,tE,_⟩;have hbE:=hG;clear hall hG;generalize x 84=zE at tE ⊢;subst tE;have eL:Aside (Below dW.heap.size dW u):=hbE;have eQ2:Aside (Below w.heap.size w u):=below_then dQ.out hbE;generalize x=xx5;clear hbE;have Tf0:Aside True:=trivial;have Tf1:Aside True:=trivial
 go_upto_region 8 with(first|(go_at_call 47;have T9:=Tf0.out;clear T9 Tf0;(with_reducible refine(on47 _ _ _ _ _).mono ?_);rintro e fa0 ⟨rfl,fha0⟩)|(go_at_call 47;have T9:=Tf1.out;clear T9 Tf1;(with_reducible refine(on47 _ _ _ _ _).mono ?_);rintro e fa1 ⟨rfl,fha1⟩)|(go_at_call 46;(with_reducible refine(one46 _ _ _ _ _).mono ?_);rintro e fb ⟨rfl,fhb⟩)|(go_at_call 19;have HV:=(HG.out _ (below_then (below_then (below_then (below_then (below_then (below_then eQ2.out (bR.alloc (Nat.le_refl _) _)) fha0) (bR.alloc (Nat.le_refl _) _)) fha1) (bR.alloc (Nat.le_refl _) _)) fhb));(with_reducible refine(ofZZ _ _ _ _ (by simpa using ((Blk.new fa1 #[.int .i64 3, .slice (some ⟨u.heap.size,0,none⟩) 1 1, .int .i64 0, .int .i64 0, .int .i64 3, .slice (some ⟨fa0.heap.size,0,none⟩) 1 1, .int .i64 0, .int .i64 0] 70).below fhb)) (by simpa using ((((((Blk.new u #[.int .i64 0] 3).below fha0).alloc (.cells #[.int .i64 0] 3)).below fha1).alloc (.cells #[.int .i64 3, .slice (some ⟨u.heap.size,0,none⟩) 1 1, .int .i64 0, .int .i64 0, .int .i64 3, .slice (some ⟨fa0.heap.size,0,none⟩) 1 1, .int .i64 0, .int .i64 0] 70)).below fhb)) (by simpa using ((((Blk.new fa0 #[.int .i64 0] 3).below fha1).alloc (.cells #[.int .i64 3, .slice (some ⟨u.heap.size,0,none⟩) 1 1, .int .i64 0, .int .i64 0, .int .i64 3, .slice (some ⟨fa0.heap.size,0,none⟩) 1 1, .int .i64 0, .int .i64 0] 70)).below fhb)) HV.1 HV.2.1 HV.2.2).mono ?_);rintro e fc ⟨fv,rfl,fho,fhc⟩;have fQ:Aside (Below w.heap.size w fc):=below_then (below_then (below_then (below_then (below_then (below_then (below_then eQ2.out (bR.alloc (Nat.le_refl _) _)) fha0) (bR.alloc (Nat.le_refl _) _)) fha1) (bR.alloc (Nat.le_refl _) _)) fhb) fhc;have fO:Aside (DRd fc fv dgZZ):=fho.rd;clear HV fho))
 obtain⟨fW,hfW⟩:∃fW,fW=fc.alloc (.cells (a9 fv dgZZ.sc) 28):=⟨_,rfl⟩;rw[←hfW];have fal:Below fc.heap.size fc fW:=by rw[hfW];exact bR.alloc (Nat.le_refl _) _
 have fBK:Aside (Blk fW fc.heap.size (l9 fv dgZZ.sc) 28):=by rw[hfW];exact Blk.new _ _ _
 have fD:Aside (DRd fW fv dgZZ):=fO.out.below fal;have fQ2:Aside (Below w.heap.size w fW):=below_then fQ.out fal;have fL:Aside (Below u.heap.size u fW):=below_then (below_then (below_then (below_then (below_then (below_then (below_then (below_then (Below.refl u.heap.size u) (bR.alloc (Nat.le_refl _) _)) fha0) (bR.alloc (Nat.le_refl _) _)) fha1) (bR.alloc (Nat.le_refl _) _)) fhb) fhc) fal;generalize fc.heap.size=fx at *;clear hfW fal fO fQ fhc fhb fha0 fha1;have q_c:=fBK.out.nine
 go_upto_region 9 with(go_at_call 30;have HV:=(HG.out _ fQ2.out);(with_reducible refine(simpZZ _ _ fD.out HV.1 HV.2.2).mono ?_);rintro e gw ⟨gv,gA,gn,gk,rfl,gd,gr,gb⟩;clear HV)
 clear q_c;obtain⟨gW,hgW⟩:∃gW,gW=gw.alloc (.cells #[.slice gv.A1 gv.n1 gv.c1, .slice gv.A2 gv.n2 gv.c2, .slice gv.A3 gv.n3 gv.c3, .slice gv.A4 gv.n4 gv.c4, .int .i64 1, .int .i64 0, .int .i64 0, .int .i64 0, .int .i64 0] 28):=⟨_,rfl⟩;rw[←hgW];have gal:Below gw.heap.size gw gW:=by rw[hgW];exact bR.alloc (Nat.le_refl _) _
 have gBK:Aside (Blk gW gw.heap.size [.slice gv.A1 gv.n1 gv.c1, .slice gv.A2 gv.n2 gv.c2, .slice gv.A3 gv.n3 gv.c3, .slice gv.A4 gv.n4 gv.c4, .int .i64 1, .int .i64 0, .int .i64 0, .int .i64 0, .int .i64 0] 28):=by rw[hgW];exact Blk.new _ _ _
 have gD:Aside (DRd gW gv dgS):=gd.below gal;have gR:Aside (Rd 3 rwC gW gA gn [⟨1,1,0⟩,⟨4,1,0⟩]):=gr.below gal;have gQ2:Aside (Below w.heap.size w gW):=below_then (below_then fQ2.out gb) gal;have gL:Aside (Below dW.heap.size dW gW):=below_then (below_then (below_then eL.out fL.out) gb) gal;obtain⟨gx,hgx⟩:∃gx,gx=gw.heap.size:=⟨_,rfl⟩;rw[←hgx]at gBK ⊢;clear hgx hgW;have cBK3:Aside (Blk gW cx [.int .i64 1, .int .i64 0, .int .i64 0, .int .i64 0, .int .i64 0] 26):=cBK2.out.below gL.out;clear gd gr gb gal
 refine wp_region_steps kR (fun x=>{tmps:=#[.bool false,pt ax 0, .int .i64 0,pt bx 0, .int .i64 0,pt cx 0,pt dx 0,pt fx 0,pt gx 0, .slice gA gn gk,x 10,x 11,undef,undef,undef,undef,undef,undef,undef,undef,undef,undef,undef, .tuple #[diaV av dgZ.sc, .int .i64 0], .slice (some ⟨w.heap.size,0,none⟩) 1 1, .agg #[.int .i64 3, .slice (some ⟨w.heap.size,0,none⟩) 1 1, .int .i64 0, .int .i64 0], .slice (some ⟨aa0.heap.size,0,none⟩) 1 1, .agg #[.int .i64 1, .int .i64 0, .slice (some ⟨aa0.heap.size,0,none⟩) 1 1], .tuple #[diaV av dgZ.sc, .int .i64 0],diaV av dgZ.sc, .int .i64 0, .tuple #[diaV bv dgCX.sc, .int .i64 0], .slice (some ⟨aW.heap.size,0,none⟩) 2 2, .agg #[.int .i64 9, .slice (some ⟨aW.heap.size,0,none⟩) 2 2, .int .i64 0, .int .i64 0], .slice (some ⟨ba0.heap.size,0,none⟩) 1 1, .agg #[.int .i64 2, .int .i64 0, .slice (some ⟨ba0.heap.size,0,none⟩) 1 1], .tuple #[diaV bv dgCX.sc, .int .i64 0],diaV bv dgCX.sc, .int .i64 0, .agg #[.int .i64 1, .int .i64 0, .int .i64 0, .int .i64 0, .int .i64 0], .agg #[.int .i64 0, .int .i64 0], .agg #[.int .i64 0, .int .i64 0], .agg #[.int .i64 1, .int .i64 0], .agg #[.int .i64 2, .int .i64 0], .agg #[.int .i64 0, .int .i64 0], .agg #[.int .i64 0, .int .i64 0], .slice (some ⟨s0,0,none⟩) 6 6, .agg #[.int .i64 0, .int .i64 2, .bool false], .agg #[.int .i64 1, .int .i64 3, .bool false], .agg #[.int .i64 2, .int .i64 3, .bool false], .agg #[.int .i64 2, .int .i64 4, .bool false], .agg #[.int .i64 3, .int .i64 5, .bool false], .slice (some ⟨s1,0,none⟩) 5 5, .slice (some ⟨s2,0,none⟩) 2 2, .slice (some ⟨s3,0,none⟩) 2 2, .agg #[.int .i64 0, .int .i64 1, .int .i64 0, .int .i64 (-1), .int .i64 0], .agg #[.slice (some ⟨s0,0,none⟩) 6 6, .slice (some ⟨s1,0,none⟩) 5 5, .slice (some ⟨s2,0,none⟩) 2 2, .slice (some ⟨s3,0,none⟩) 2 2, .int .i64 0, .int .i64 1, .int .i64 0, .int .i64 (-1), .int .i64 0],xx5 57,xx5 58,xx5 59,xx5 60,xx5 61,xx5 62,xx5 63,xx5 64,xx5 65,xx5 66,xx5 67,xx5 68,xx5 69,xx5 70,xx5 71,xx5 72,xx5 73,xx5 74,xx5 75,xx5 76,xx5 77,xx5 78,xx5 79,xx5 80,xx5 81,xx5 82,xx5 83, .bool false, .tuple #[diaV fv dgZZ.sc, .int .i64 0], .slice (some ⟨u.heap.size,0,none⟩) 1 1, .agg #[.int .i64 3, .slice (some ⟨u.heap.size,0,none⟩) 1 1, .int .i64 0, .int .i64 0], .slice (some ⟨fa0.heap.size,0,none⟩) 1 1, .agg #[.int .i64 3, .slice (some ⟨fa0.heap.size,0,none⟩) 1 1, .int .i64 0, .int .i64 0], .slice (some ⟨fa1.heap.size,0,none⟩) 2 2, .agg #[.int .i64 1, .int .i64 0, .slice (some ⟨fa1.heap.size,0,none⟩) 2 2], .tuple #[diaV fv dgZZ.sc, .int .i64 0],diaV fv dgZZ.sc, .int .i64 0, .tuple #[.agg #[.slice gv.A1 gv.n1 gv.c1, .slice gv.A2 gv.n2 gv.c2, .slice gv.A3 gv.n3 gv.c3, .slice gv.A4 gv.n4 gv.c4, .int .i64 1, .int .i64 0, .int .i64 0, .int .i64 0, .int .i64 0], .slice gA gn gk, .int .i64 0], .agg (a9 fv dgZZ.sc), .tuple #[.agg #[.slice gv.A1 gv.n1 gv.c1, .slice gv.A2 gv.n2 gv.c2, .slice gv.A3 gv.n3 gv.c3, .slice gv.A4 gv.n4 gv.c4, .int .i64 1, .int .i64 0, .int .i64 0, .int .i64 0, .int .i64 0], .slice gA gn gk, .int .i64 0], .agg #[.slice gv.A1 gv.n1 gv.c1, .slice gv.A2 gv.n2 gv.c2, .slice gv.A3 gv.n3 gv.c3, .slice gv.A4 gv.n4 gv.c4, .int .i64 1, .int .i64 0, .int .i64 0, .int .i64 0, .int .i64 0], .slice gA gn gk, .int .i64 0,x 101,x 102,x 103,x 104,x 105,x 106,x 107,x 108,x 109,undef,undef,undef,undef,undef,undef,undef,undef,undef,undef,undef,undef,undef,undef,undef,undef,undef,undef,undef,undef,undef,undef,undef,undef,undef,undef,undef,undef,undef,undef,undef,undef,undef,undef,undef,undef,undef,undef,undef,undef,undef,undef,undef,undef,undef,undef,undef,undef,undef,undef,undef,undef,undef,undef,undef,undef,undef,undef,undef,undef,undef,undef,undef,undef,undef,undef,undef,undef,undef,undef,undef,undef,undef,undef,undef,undef,undef,undef,undef,undef,undef,undef,undef,undef,undef,undef,undef,undef,undef,undef,undef,undef,undef,undef,undef,undef,undef,undef,undef,undef,undef,undef,undef,undef,undef,undef,undef,undef,undef,undef,undef,undef,undef,undef],defers:=[]}) (fun j=>match j with|_=>undef) rfl (fun l u=>Below gW.heap.size gW u) (fun i u u'=>match i with|10=>∃z a0 a1 a2 a3 a4 a5 a6 a7 a8,Blk u z [a0,a1,a2,a3,a4,a5,a6,a7,a8] 28∧Touch [z] u u'∧∃b0 b1 b2 b3 b4 b5 b6 b7 b8,Blk u' z [b0,b1,b2,b3,b4,b5,b6,b7,b8] 28|_=>Below u.heap.size u u') (fun j=>match j with|0=>[102]|1=>[103]|2=>[104]|3=>[105]|4=>[106]|5=>[107]|6=>[101]|7=>[108]|8=>[109]|9=>[10]|10=>[10]|11=>[11]|_=>[]) (fun j x u=>match j with|0=>x 102= .agg #[.int .i64 1, .int .i64 2]|1=>∃g,x 103= .slice (some ⟨g,0,none⟩) 1 1∧gW.heap.size≤g∧Blk u g [.int .i64 1, .int .i64 2] 73|2=>x 104= .agg #[.int .i64 1, .int .i64 0, .int .i64 0, .int .i64 0, .int .i64 0]|3=>∃g,x 105= .agg #[.slice (some ⟨g,0,none⟩) 1 1, .slice none 0 0, .slice none 0 0, .slice none 0 0, .int .i64 1, .int .i64 0, .int .i64 0, .int .i64 0, .int .i64 0]∧gW.heap.size≤g∧Blk u g [.int .i64 1, .int .i64 2] 73|4=>x 106= .agg #[.int .i64 6, .int .i64 0, .int .i64 0]|5=>∃v':DV,x 107= .tuple #[.agg #[.slice v'.A1 v'.n1 v'.c1, .slice v'.A2 v'.n2 v'.c2, .slice v'.A3 v'.n3 v'.c3, .slice v'.A4 v'.n4 v'.c4, .int .i64 1, .int .i64 0, .int .i64 1, .int .i64 0, .int .i64 0], .int .i64 0]∧v'.n1=0|6=>∃v':DV,x 101= .tuple #[.agg #[.slice v'.A1 v'.n1 v'.c1, .slice v'.A2 v'.n2 v'.c2, .slice v'.A3 v'.n3 v'.c3, .slice v'.A4 v'.n4 v'.c4, .int .i64 1, .int .i64 0, .int .i64 1, .int .i64 0, .int .i64 0], .int .i64 0]∧v'.n1=0|7=>∃v':DV,x 108= .agg #[.slice v'.A1 v'.n1 v'.c1, .slice v'.A2 v'.n2 v'.c2, .slice v'.A3 v'.n3 v'.c3, .slice v'.A4 v'.n4 v'.c4, .int .i64 1, .int .i64 0, .int .i64 1, .int .i64 0, .int .i64 0]∧v'.n1=0|8=>x 109= .int .i64 0|9=>∃z c0 c1 c2 c3 c4 c5 c6 c7 c8,x 10=pt z 0∧gW.heap.size≤z∧Blk u z [c0,c1,c2,c3,c4,c5,c6,c7,c8] 28|10=>∃z,∃v':DV,x 10=pt z 0∧v'.n1=0∧Blk u z [.slice v'.A1 v'.n1 v'.c1, .slice v'.A2 v'.n2 v'.c2, .slice v'.A3 v'.n3 v'.c3, .slice v'.A4 v'.n4 v'.c4, .int .i64 1, .int .i64 0, .int .i64 1, .int .i64 0, .int .i64 0] 28|11=>x 11= .int .i64 0|_=>True) kR ?hput kR kR ?h0 ?hkeep ?hloc ?hstep ?hend
 case hput=>repeat' first|exact True.intro|apply And.intro|(intro d hd x v;cases hd<;>rfl)
 case h0=>exact bR.drew
 case hkeep=>
  intro j i x l u u' hj hi hpre ht hG hR
  by_cases hj1:j=1
  · subst hj1;exact xe71_0
  by_cases hj3:j=3
  · subst hj3;exact xe71_0
  by_cases hj9:j=9
  · subst hj9;obtain⟨z,c0,c1,c2,c3,c4,c5,c6,c7,c8,h1,h2,h3⟩:=ht
    by_cases hi10:i=10
    · subst hi10;obtain⟨z',a0,a1,a2,a3,a4,a5,a6,a7,a8,g1,g2,b0,b1,b2,b3,b4,b5,b6,b7,b8,g3⟩:=hR
      by_cases hz:z'=z
      · subst hz;exact⟨z',_,_,_,_,_,_,_,_,_,h1,h2,g3⟩
      exact⟨z,_,_,_,_,_,_,_,_,_,h1,h2,h3.touch g2 (fun hm=>by simp at hm;exact hz hm.symm)⟩
    exact⟨z,_,_,_,_,_,_,_,_,_,h1,h2,h3.below (by have h9:=hR;split at h9<;>first|exact(hi10 rfl).elim|exact h9)⟩
  by_cases hj10:j=10
  · subst hj10;obtain⟨z,v',h1,h2,h3⟩:=ht
    by_cases hi10:i=10
    · subst hi10;rw[hj]at hi;cases hi
    exact⟨z,v',h1,h2,h3.below (by have h9:=hR;split at h9<;>first|exact(hi10 rfl).elim|exact h9)⟩
  exact(by have h9:=ht;clear ht;split at h9<;>first|exact h9|exact(hj1 rfl).elim|exact(hj3 rfl).elim|exact(hj9 rfl).elim|exact(hj10 rfl).elim)
 case hloc=>repeat' first|exact True.intro|apply And.intro|exact fun x x' u h ht=>ht|(intro x x' u h ht;simp only[List.mem_cons,List.not_mem_nil,or_false,forall_eq_or_imp,forall_eq]at h;simp only[h]at ht;exact ht)
 case hstep=>
  refine⟨?c0,?c1,?c2,?c3,?_,?c5,?c6,?c7,?c8,?c9,?c10,?_,trivial⟩
  case c0=>
   intro l x u hG hno hli hpre hd K hK;clear hd;go_simp
   (with_reducible refine(z49 2 u).mono ?_);rintro e u2 ⟨rfl,hb⟩
   exact hK _ _ rfl hb (below_then hG hb)
  case c1=>
   intro l x u hG hno hli hpre hd K hK;have e0:x 102= .agg #[.int .i64 1, .int .i64 2]:=hd ⟨0, .data⟩ sI rfl;clear hd;simp only[e0]at hK ⊢;go_simp
   exact hK _ _ ⟨_,rfl,hG.size,Blk.new _ _ _⟩ (bR.alloc (Nat.le_refl _) _) (below_then hG (bR.alloc (Nat.le_refl _) _))
  case c2=>
   intro l x u hG hno hli hpre hd K hK;clear hd;obtain⟨c0,c1,c2,c3,c4,cf⟩:=(cBK3.out.below hG).five;go_simp
   exact hK _ _ rfl bR hG
  case c3=>
   intro l x u hG hno hli hpre hd K hK;have e1:∃g,x 103= .slice (some ⟨g,0,none⟩) 1 1∧gW.heap.size≤g∧Blk u g [.int .i64 1, .int .i64 2] 73:=hd ⟨1, .data⟩ sI rfl;have e2:x 104= .agg #[.int .i64 1, .int .i64 0, .int .i64 0, .int .i64 0, .int .i64 0]:=hd ⟨2, .data⟩ sI rfl;clear hd;simp only[e2]at hK ⊢;obtain⟨g,h1,h2,h3⟩:=e1;generalize x 103=y1 at h1 hK ⊢;subst h1;go_simp
   exact hK _ _ ⟨g,rfl,h2,h3⟩ bR hG
  case c5=>
   intro l x u hG hno hli hpre hd K hK;have e3:∃g,x 105= .agg #[.slice (some ⟨g,0,none⟩) 1 1, .slice none 0 0, .slice none 0 0, .slice none 0 0, .int .i64 1, .int .i64 0, .int .i64 0, .int .i64 0, .int .i64 0]∧gW.heap.size≤g∧Blk u g [.int .i64 1, .int .i64 2] 73:=hd ⟨3, .data⟩ sI rfl;have e4:x 106= .agg #[.int .i64 6, .int .i64 0, .int .i64 0]:=hd ⟨4, .data⟩ sI rfl;clear hd;simp only[e4]at hK ⊢;obtain⟨g,h1,h2,h3⟩:=e3;generalize x 105=y1 at h1 hK ⊢;subst h1;have HV:=(HG.out u (below_then gQ2.out hG))
   have HD:Calls Tryz.prog 22 #[.agg #[.slice (some ⟨g,0,none⟩) 1 1, .slice none 0 0, .slice none 0 0, .slice none 0 0, .int .i64 1, .int .i64 0, .int .i64 0, .int .i64 0, .int .i64 0], .agg #[.int .i64 6, .int .i64 0, .int .i64 0]] u _:=doD u ⟨some ⟨g,0,none⟩,1,1,none,0,0,none,0,0,none,0,0⟩ ⟨Rd.ofBlk (xs:=[(⟨1,2⟩:Spider)]) (enc:=spC) h3 (fun _=>rfl) sI,Rd.nil _ _ _ _,Rd.nil _ _ _ _,Rd.nil _ _ _ _,by simp,by simp,by simp,by simp⟩ HV.1 HV.2.2;go_simp
   (with_reducible refine HD.mono ?_);rintro e u2 ⟨v',rfl,hn,hb⟩
   exact hK _ _ ⟨v',rfl,hn⟩ hb (below_then hG hb)
  case c6=>
   intro l x u hG hno hli hpre hd K hK;have e5:∃v':DV,x 107= .tuple #[.agg #[.slice v'.A1 v'.n1 v'.c1, .slice v'.A2 v'.n2 v'.c2, .slice v'.A3 v'.n3 v'.c3, .slice v'.A4 v'.n4 v'.c4, .int .i64 1, .int .i64 0, .int .i64 1, .int .i64 0, .int .i64 0], .int .i64 0]∧v'.n1=0:=hd ⟨5, .data⟩ sI rfl;clear hd;obtain⟨v',h1,h2⟩:=e5;have H2:=Lib.hid h2;clear h2;generalize x 107=y1 at h1 hK ⊢;subst h1;go_simp
   exact hK _ _ ⟨v',rfl,H2.out⟩ bR hG
  case c7=>
   intro l x u hG hno hli hpre hd K hK;have e6:∃v':DV,x 101= .tuple #[.agg #[.slice v'.A1 v'.n1 v'.c1, .slice v'.A2 v'.n2 v'.c2, .slice v'.A3 v'.n3 v'.c3, .slice v'.A4 v'.n4 v'.c4, .int .i64 1, .int .i64 0, .int .i64 1, .int .i64 0, .int .i64 0], .int .i64 0]∧v'.n1=0:=hd ⟨6, .data⟩ sI rfl;clear hd;obtain⟨v',h1,h2⟩:=e6;have H2:=Lib.hid h2;clear h2;generalize x 101=y1 at h1 hK ⊢;subst h1;go_simp
   exact hK _ _ ⟨v',rfl,H2.out⟩ bR hG
  case c8=>
   intro l x u hG hno hli hpre hd K hK;have e6:∃v':DV,x 101= .tuple #[.agg #[.slice v'.A1 v'.n1 v'.c1, .slice v'.A2 v'.n2 v'.c2, .slice v'.A3 v'.n3 v'.c3, .slice v'.A4 v'.n4 v'.c4, .int .i64 1, .int .i64 0, .int .i64 1, .int .i64 0, .int .i64 0], .int .i64 0]∧v'.n1=0:=hd ⟨6, .data⟩ sI rfl;clear hd;obtain⟨v',h1,h2⟩:=e6;have H2:=Lib.hid h2;clear h2;generalize x 101=y1 at h1 hK ⊢;subst h1;go_simp
   exact hK _ _ rfl bR hG
  case c9=>
   intro l x u hG hno hli hpre hd K hK;clear hd;go_simp
   exact hK _ _ ⟨_,_,_,_,_,_,_,_,_,_,rfl,hG.size,Blk.new _ _ _⟩ (bR.alloc (Nat.le_refl _) _) (below_then hG (bR.alloc (Nat.le_refl _) _))
  case c10=>
   intro l x u hG hno hli hpre hd K hK;have e9:∃z c0 c1 c2 c3 c4 c5 c6 c7 c8,x 10=pt z 0∧gW.heap.size≤z∧Blk u z [c0,c1,c2,c3,c4,c5,c6,c7,c8] 28:=hd ⟨9, .data⟩ sI rfl;have e7:∃v':DV,x 108= .agg #[.slice v'.A1 v'.n1 v'.c1, .slice v'.A2 v'.n2 v'.c2, .slice v'.A3 v'.n3 v'.c3, .slice v'.A4 v'.n4 v'.c4, .int .i64 1, .int .i64 0, .int .i64 1, .int .i64 0, .int .i64 0]∧v'.n1=0:=hd ⟨7, .data⟩ sI rfl;clear hd;obtain⟨v',h1,h2⟩:=e7;have H2:=Lib.hid h2;clear h2;obtain⟨z,c0,c1,c2,c3,c4,c5,c6,c7,c8,h3,h4,h5⟩:=e9;generalize x 108=y1 at h1 hK ⊢;subst h1;generalize hk10:x 10=y2 at h3 hK ⊢;subst h3;have hq:=h5.set9 (.slice v'.A1 v'.n1 v'.c1) (.slice v'.A2 v'.n2 v'.c2) (.slice v'.A3 v'.n3 v'.c3) (.slice v'.A4 v'.n4 v'.c4) (.int .i64 1) (.int .i64 0) (.int .i64 1) (.int .i64 0) (.int .i64 0)
   have hT:=touch_set9 u z (.slice v'.A1 v'.n1 v'.c1) (.slice v'.A2 v'.n2 v'.c2) (.slice v'.A3 v'.n3 v'.c3) (.slice v'.A4 v'.n4 v'.c4) (.int .i64 1) (.int .i64 0) (.int .i64 1) (.int .i64 0) (.int .i64 0);have k_c:=h5.nine;have HQ9:=Lib.hid hq;have HT9:=Lib.hid hT;have HK10:=Lib.hid hk10;have H5:=Lib.hid h5;clear hq hT hk10 h5;go_simp
   exact hK undef _ ⟨z,v',HK10.out,H2.out,HQ9.out⟩ ⟨z,_,_,_,_,_,_,_,_,_,H5.out,HT9.out,_,_,_,_,_,_,_,_,_,HQ9.out⟩ (hG.trans (HT9.out.below hG.size (fun b hb=>by simp at hb;omega)))
  all_goals
   intro l x u hG hno hli hpre hd K hK;dsimp only at hd;simp only[eB]at hd
   try simp only[hd]at hK ⊢
   go_simp
   exact hK _ _ rfl bR hG
 rintro l x9 v9 hall hG ⟨_,_,_,_,_,_,_,_,_,_,⟨z9,v',h10,hn9,hB9⟩,t11,_⟩;have hbE:=hG;clear hall hG;generalize x9 10=yE at h10 ⊢;subst h10;generalize x9 11=yF at t11 ⊢;subst t11;have jBK:Aside (Blk v9 z9 [.slice v'.A1 v'.n1 v'.c1, .slice v'.A2 v'.n2 v'.c2, .slice v'.A3 v'.n3 v'.c3, .slice v'.A4 v'.n4 v'.c4, .int .i64 1, .int .i64 0, .int .i64 1, .int .i64 0, .int .i64 0] 28):=hB9;have jN:Aside (v'.n1=0):=hn9;have jL:Aside (Below gW.heap.size gW v9):=hbE;have jQ2:Aside (Below w.heap.size w v9):=below_then gQ2.out hbE;clear hbE hB9 hn9;have Th0:Aside True:=trivial
 go_upto_region 11 with(first|(go_at_call 47;have T9:=Th0.out;clear T9 Th0;(with_reducible refine(on47 _ _ _ _ _).mono ?_);rintro e ha0 ⟨rfl,hha0⟩)|(go_at_call 46;(with_reducible refine(one46 _ _ _ _ _).mono ?_);rintro e hb ⟨rfl,hhb⟩)|(go_at_call 19;have HV:=(HG.out _ (below_then (below_then (below_then (below_then jQ2.out (bR.alloc (Nat.le_refl _) _)) hha0) (bR.alloc (Nat.le_refl _) _)) hhb));(with_reducible refine(ofH _ _ _ (by simpa using ((Blk.new ha0 #[.int .i64 4, .slice (some ⟨v9.heap.size,0,none⟩) 1 1, .int .i64 0, .int .i64 0] 70).below hhb)) (by simpa using ((((Blk.new v9 #[.int .i64 0] 3).below hha0).alloc (.cells #[.int .i64 4, .slice (some ⟨v9.heap.size,0,none⟩) 1 1, .int .i64 0, .int .i64 0] 70)).below hhb)) HV.1 HV.2.1 HV.2.2).mono ?_);rintro e hc ⟨hv,rfl,hho,hhc⟩;have hQ:Aside (Below w.heap.size w hc):=below_then (below_then (below_then (below_then (below_then jQ2.out (bR.alloc (Nat.le_refl _) _)) hha0) (bR.alloc (Nat.le_refl _) _)) hhb) hhc;have hO:Aside (DRd hc hv dgH):=hho.rd;clear HV hho))
 obtain⟨hW,hhW⟩:∃hW,hW=hc.alloc (.cells (a9 hv dgH.sc) 28):=⟨_,rfl⟩;rw[←hhW];have hal:Below hc.heap.size hc hW:=by rw[hhW];exact bR.alloc (Nat.le_refl _) _
 have hBK:Aside (Blk hW hc.heap.size (l9 hv dgH.sc) 28):=by rw[hhW];exact Blk.new _ _ _
 have hD:Aside (DRd hW hv dgH):=hO.out.below hal;have hQ2:Aside (Below w.heap.size w hW):=below_then hQ.out hal;have hL:Aside (Below v9.heap.size v9 hW):=below_then (below_then (below_then (below_then (below_then (below_then (Below.refl v9.heap.size v9) (bR.alloc (Nat.le_refl _) _)) hha0) (bR.alloc (Nat.le_refl _) _)) hhb) hhc) hal;generalize hc.heap.size=hx at *;clear hhW hal hO hQ hhc hhb hha0;have q_c:=hBK.out.nine
 go_upto_region 12 with(go_at_call 13;(with_reducible refine(meanH _ _ hD.out).mono ?_);rintro e mw ⟨mA,mn,mk,mhs,rfl,mr,mb⟩)
 clear q_c;have mR:Aside (RowsRd mw mA mn mhs [[⟨1,0,0,0,1⟩,⟨1,0,0,0,1⟩],[⟨1,0,0,0,1⟩,⟨-1,0,0,0,1⟩]]):=mr;have mQ:Aside (Below w.heap.size w mw):=below_then hQ2.out mb;have mL:Aside (Below v9.heap.size v9 mw):=below_then hL.out mb;have hBK2:=Lib.hid (hBK.out.below mb);have hD2:=Lib.hid (hD.out.below mb);clear mr mb;have q_c:=hBK2.out.nine
 go_upto_region 13 with(go_at_call 25;have HV:=(HG.out _ mQ.out);(with_reducible refine(plugH _ _ hD2.out HV.1 HV.2.2).mono ?_);rintro e pw ⟨pv,rfl,pd,pb⟩;clear HV)
 clear q_c;obtain⟨pW,hpW⟩:∃pW,pW=pw.alloc (.cells (a9 pv dgP.sc) 28):=⟨_,rfl⟩;rw[←hpW];have pal:Below pw.heap.size pw pW:=by rw[hpW];exact bR.alloc (Nat.le_refl _) _
 have pBK:Aside (Blk pW pw.heap.size (l9 pv dgP.sc) 28):=by rw[hpW];exact Blk.new _ _ _
 have pD:Aside (DRd pW pv dgP):=pd.below pal;have pQ:Aside (Below w.heap.size w pW):=below_then (below_then mQ.out pb) pal;have pL:Aside (Below mw.heap.size mw pW):=below_then pb pal;obtain⟨px,hpx⟩:∃px,px=pw.heap.size:=⟨_,rfl⟩;rw[←hpx]at pBK ⊢;clear hpx hpW;clear pd pb pal;have q_c:=pBK.out.nine
 go_upto_region 14 with(go_at_call 30;have HV:=(HG.out _ pQ.out);(with_reducible refine(simpP _ _ pD.out HV.1 HV.2.2).mono ?_);rintro e rw9 ⟨rv,rA,rn,rk,rfl,rN0,rb⟩;have rN:Aside (rv.n1=0):=rN0;clear rN0;clear HV)
 clear q_c;obtain⟨rW,hrW⟩:∃rW,rW=rw9.alloc (.cells #[.slice rv.A1 rv.n1 rv.c1, .slice rv.A2 rv.n2 rv.c2, .slice rv.A3 rv.n3 rv.c3, .slice rv.A4 rv.n4 rv.c4, .int .i64 (-1), .int .i64 0, .int .i64 0, .int .i64 0, .int .i64 1] 28):=⟨_,rfl⟩;rw[←hrW];have ral:Below rw9.heap.size rw9 rW:=by rw[hrW];exact bR.alloc (Nat.le_refl _) _
 have rBK:Aside (Blk rW rw9.heap.size [.slice rv.A1 rv.n1 rv.c1, .slice rv.A2 rv.n2 rv.c2, .slice rv.A3 rv.n3 rv.c3, .slice rv.A4 rv.n4 rv.c4, .int .i64 (-1), .int .i64 0, .int .i64 0, .int .i64 0, .int .i64 1] 28):=by rw[hrW];exact Blk.new _ _ _
 have rN2:Aside (rv.n1=0):=rN;have rQ:Aside (Below w.heap.size w rW):=below_then (below_then pQ.out rb) ral;have rL:Aside (Below mw.heap.size mw rW):=below_then (below_then pL.out rb) ral;obtain⟨rx,hrx⟩:∃rx,rx=rw9.heap.size:=⟨_,rfl⟩;rw[←hrx]at rBK ⊢;clear hrx hrW;clear rN rb ral
 go_upto_region 15 with fail
 obtain⟨sW,hsW⟩:∃sW,sW=rW.alloc (.cells #[.int .i64 1, .int .i64 0, .int .i64 0, .int .i64 0, .int .i64 1] 26):=⟨_,rfl⟩;rw[←hsW];have sal:Below rW.heap.size rW sW:=by rw[hsW];exact bR.alloc (Nat.le_refl _) _
 have sBK:Aside (Blk sW rW.heap.size [.int .i64 1, .int .i64 0, .int .i64 0, .int .i64 0, .int .i64 1] 26):=by rw[hsW];exact Blk.new _ _ _
 have sQ:Aside (Below w.heap.size w sW):=below_then rQ.out sal;have sL:Aside (Below rW.heap.size rW sW):=sal;obtain⟨sx,hsx⟩:∃sx,sx=rW.heap.size:=⟨_,rfl⟩;rw[←hsx]at sBK ⊢;clear hsx hsW;clear sal
 go_upto_region 16 with fail
 obtain⟨uW,huW⟩:∃uW,uW=sW.alloc (.cells #[.int .i64 (-1), .int .i64 0, .int .i64 0, .int .i64 0, .int .i64 1] 26):=⟨_,rfl⟩;rw[←huW];have ual:Below sW.heap.size sW uW:=by rw[huW];exact bR.alloc (Nat.le_refl _) _
 have uBK:Aside (Blk uW sW.heap.size [.int .i64 (-1), .int .i64 0, .int .i64 0, .int .i64 0, .int .i64 1] 26):=by rw[huW];exact Blk.new _ _ _
 have uQ:Aside (Below w.heap.size w uW):=below_then sQ.out ual;have uL:Aside (Below mw.heap.size mw uW):=below_then (below_then rL.out sL.out) ual;have uL2:Aside (Below rW.heap.size rW uW):=below_then sL.out ual;obtain⟨ux,hux⟩:∃ux,ux=sW.heap.size:=⟨_,rfl⟩;rw[←hux]at uBK ⊢;clear hux huW;have sBK2:=Lib.hid (sBK.out.below ual);clear ual;have gU:Below gW.heap.size gW uW:=below_then (below_then jL.out mL.out) uL.out;have jU:Below v9.heap.size v9 uW:=below_then mL.out uL.out;have hgd:DRd uW gv dgS:=gD.out.below gU;have gR2:Aside (Rd 3 rwC uW gA gn [⟨1,1,0⟩,⟨4,1,0⟩]):=gR.out.below gU;have gBK2:=Lib.hid (gBK.out.below gU);have jBK2:=Lib.hid (jBK.out.below jU);have mR2:=Lib.hid (mR.out.below uL.out);have rBK2:=Lib.hid (rBK.out.below uL2.out);clear gBK jBK mR rBK gD gR sBK
 obtain⟨lb,lo,hA2,hllt,l0,l1,l2⟩:=Rd.at3 hgd.ln (i:=0) (x:=⟨0,1,false⟩) rfl rfl;have e1:=hgd.sp.len;have e2:=hgd.ln.len;have l2':Aside (uW.cell? ⟨lb,lo+2,none⟩=some (.bool false)):=by rw[Nat.zero_mul,Nat.add_zero]at l2;exact l2
 clear l0 l1 l2 hgd gU jU;generalize gv.n1=gn1 at gBK2 e1;generalize gv.n2=gn2 at gBK2 e2;generalize gv.A2=gA2 at gBK2 hA2;subst hA2
 change 2=gn1 at e1
 change 1=gn2 at e2
 subst e1;subst e2;have jN2:=jN.out;clear jN;generalize v'.n1=jn1 at jBK2 jN2;subst jN2;have rN3:=rN2.out;clear rN2;generalize rv.n1=rn1 at rBK2 rN3;subst rN3;have hU:=uQ;clear uQ;have q_c:=gBK2.out.nine;have l2q:=l2'.out;clear l2'
 go_wp2_with (first|(go_at_call 32;(with_reducible refine(eqs32 _ _ _ _ _ _ _ _ _ (gR2.out.below (bR.alloc (Nat.le_refl _) _)) (rewNew _ _)).mono ?_);rintro e V1 ⟨rfl,hV1⟩;have hUV:Aside (Below uW.heap.size uW V1):=below_then (bR.alloc (Nat.le_refl _) _) hV1;clear hV1 q_c;obtain⟨j0,j1,j2,j3,j4,j5,j6,j7,j8,jf⟩:=(jBK2.out.below hUV.out).nine;obtain⟨s0,s1,s2,s3,s4,sf⟩:=(sBK2.out.below hUV.out).five;obtain⟨t0,t1,t2,t3,t4,tf⟩:=(uBK.out.below hUV.out).five;have S0:=fun o=>((sBK2.out.below hUV.out).alloc o).five.1;have S1:=fun o=>((sBK2.out.below hUV.out).alloc o).five.2.1;have S2:=fun o=>((sBK2.out.below hUV.out).alloc o).five.2.2.1;have S3:=fun o=>((sBK2.out.below hUV.out).alloc o).five.2.2.2.1;have S4:=fun o=>((sBK2.out.below hUV.out).alloc o).five.2.2.2.2.1;have U0:=fun o=>((uBK.out.below hUV.out).alloc o).five.1;have U1:=fun o=>((uBK.out.below hUV.out).alloc o).five.2.1;have U2:=fun o=>((uBK.out.below hUV.out).alloc o).five.2.2.1;have U3:=fun o=>((uBK.out.below hUV.out).alloc o).five.2.2.2.1;have U4:=fun o=>((uBK.out.below hUV.out).alloc o).five.2.2.2.2.1)|(go_at_call 15;(with_reducible refine(same15 _ _ _ _ _ _ _ _ _ _ _ (mR2.out.below (below_then (below_then (below_then hUV.out (bR.alloc (Nat.le_refl _) _)) (bR.alloc (Nat.le_refl _) _)) (bR.alloc (Nat.le_refl _) _))) (rowsNew _ _ _ _)).mono ?_);rintro e V2 ⟨rfl,hV2⟩;have hUV2:Aside (Below uW.heap.size uW V2):=below_then (below_then (below_then (below_then hUV.out (bR.alloc (Nat.le_refl _) _)) (bR.alloc (Nat.le_refl _) _)) (bR.alloc (Nat.le_refl _) _)) hV2;clear hV2 j0 j1 j2 j3 j4 j5 j6 j7 j8 jf s0 s1 s2 s3 s4 sf t0 t1 t2 t3 t4 tf S0 S1 S2 S3 S4 U0 U1 U2 U3 U4;obtain⟨r0,r1,r2,r3,r4,r5,r6,r7,r8,rf⟩:=(rBK2.out.below hUV2.out).nine;obtain⟨t0,t1,t2,t3,t4,tf⟩:=(uBK.out.below hUV2.out).five))
 go_outline
 refine bodyPost_ret (v:= .bool true) (by simp[results,Tryz.results11,go_sem]) rfl ⟨rfl,?_⟩
 exact below_then hU.out hUV2.out
end Go.Proofs.YtcoackmdmohnhaaGreatDoor
