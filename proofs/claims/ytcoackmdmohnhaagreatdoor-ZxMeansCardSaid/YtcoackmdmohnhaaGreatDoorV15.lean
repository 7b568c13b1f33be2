/- Package zx, rules: fuses. -/
import Derived.Test.YtcoackmdmohnhaaGreatDoorV6
set_option linter.unusedVariables false
set_option linter.unusedSimpArgs false
set_option maxRecDepth 100000
set_option maxHeartbeats 4000000
namespace Go.Proofs.YtcoackmdmohnhaaGreatDoor
open Go.RowKit Go.Shelf
variable {t:TypeId} {tl:List Value} {B:Nat} {p:Nat} {w:World} {v:DV} {d:Diag}
theorem AwG.skip1 {M:List Line} {jj:Nat} {x y:Line} {Wa u:World} {b c:Bool} (h:AwG t tl B p v d M jj x y Wa b c u) (e:y.f=x.f):AwG t tl B p v d M jj x y Wa true c u:=by
 have h1:mixL x y b c=mixL x y true c:=by unfold mixL;rw[e];simp
 unfold AwG at h ⊢;rw[←h1];exact h
theorem AwG.skip2 {M:List Line} {jj:Nat} {x y:Line} {Wa u:World} {b c:Bool} (h:AwG t tl B p v d M jj x y Wa b c u) (e:y.t=x.t):AwG t tl B p v d M jj x y Wa b true u:=by
 have h1:mixL x y b c=mixL x y b true:=by unfold mixL;rw[e];simp
 unfold AwG at h ⊢;rw[←h1];exact h
theorem xe13_0 {p:Prop} (h:p:=by
 dsimp only[fil,fls,fl,List.toList_toArray,Nat.reduceAdd];rintro l x u hall hG ⟨_,_,_,_,_,_,_,_,_,_,_,_,_,_,_,_,_,_,_,_,_,_,_,_,_,_,_,_,_,_,_,_,_,_,e34,_⟩;clear hall;generalize x 54=z54 at e34 ⊢;subst e34;go_wp2_with fail
 refine bodyPost_ret (v:= .tuple #[.bool false, .int .i64 0]) (by simp[results,Tryz.results184,go_sem]) rfl (by rw[HM0.out];exact RuleR.none 0 (HUW.out.t.then_below hG))):p:=h
theorem xe13_1 {p:Prop} (h:p:=by
 have HG2:Aside _:=hG2;clear hr1 hr2 hG0 hG2;go_wp2_with fail
 go_roundg (v.n2-1-(jj+1))
 case measure=>omega
 refine⟨jj+1,oM,Nat.le_refl _,nX,?_,?_⟩
 · show WK t tl B _ p v7 _
   rw[←HN.out];exact HG2.out.1
 exact hT.out.trans HG2.out.2):p:=h
theorem xe13_2 {p:Prop} (h:p:=by
 have e3:x 23=pt w.heap.size 2:=hd ⟨3, .data⟩ sI rfl;have e2:x 22= .bool false:=hd ⟨2, .guard⟩ sI rfl;clear hd;refine ite_on (gcond_on rfl kR e2) ?_
 simp only[e3,e2]at hK ⊢;obtain⟨m0,b0,b1,b2,k_1,k_2⟩:=HS.out _ hG;go_simp
 exact hK _ _ rfl bR hG):p:=h
theorem xe13_3 {p:Prop} (h:p:=by
 have e7:x 27=pt p 0:=hd ⟨7, .data⟩ sI rfl;have e9:x 29= .int .i64 fn:=hd ⟨9, .data⟩ sI rfl;have e6:x 26= .bool false:=hd ⟨6, .chain⟩ sI rfl;clear hd;refine ite_on (gcond_on rfl kR e6) ?_
 simp only[e7,e9,e6]at hK ⊢;go_simp
 (with_reducible refine(HI2 (hKW.below hG)).mono ?_);rintro e w9 ⟨rfl,rfl⟩
 exact hK _ _ rfl bR hG):p:=h
theorem xe13_4 {p:Prop} (h:p:=by
 have e8:x 28=pt w.heap.size 0:=hd ⟨8, .data⟩ sI rfl;have e6:x 26= .bool false:=hd ⟨6, .guard⟩ sI rfl;clear hd;refine ite_on (gcond_on rfl kR e6) ?_
 simp only[e8,e6]at hK ⊢;obtain⟨m0,b0,b1,b2,k_1,k_2⟩:=HS.out _ hG;go_simp
 exact hK _ _ rfl bR hG):p:=h
theorem xe13_5 {p:Prop} (h:p:=by
 have e0:x 20= .agg #[fn,tn, .bool false]:=hd ⟨0, .data⟩ sI rfl;clear hd;refine ite_on (gcond_none rfl) ?_
 simp only[e0]at hK ⊢;go_simp
 (with_reducible refine(HL _).mono ?_);rintro e w9 ⟨rfl,hb⟩
 exact hK _ _ rfl hb (below_then hG hb)):p:=h
theorem xe13_6 {p:Prop} (h:p:=by
 have e17:x 37= .slice (some ⟨g1,0,none⟩) v.n1 v.c1:=hd ⟨17, .data⟩ sI rfl;have e19:x 39= .int .i64 fn:=hd ⟨19, .data⟩ sI rfl;have e12:x 32= .bool false:=hd ⟨12, .guard⟩ sI rfl;clear hd;refine ite_on (gcond_on rfl kR e12) ?_
 simp only[e17,e19,e12]at hK ⊢;go_simp
 exact hK _ _ rfl bR hG):p:=h
theorem xe13_7 {p:Prop} (h:p:=by
 have e27:x 47= .slice (some ⟨g1,0,none⟩) v.n1 v.c1:=hd ⟨27, .data⟩ sI rfl;have e29:x 49= .int .i64 tn:=hd ⟨29, .data⟩ sI rfl;have e12:x 32= .bool false:=hd ⟨12, .guard⟩ sI rfl;clear hd;refine ite_on (gcond_on rfl kR e12) ?_
 simp only[e27,e29,e12]at hK ⊢;go_simp
 exact hK _ _ rfl bR hG):p:=h
theorem xe13_8 {p:Prop} (h:p:=by
 have e21:x 41= .pointer (some ⟨g1,fn*2,none⟩):=hd ⟨21, .data⟩ sI rfl;have e12:x 32= .bool false:=hd ⟨12, .guard⟩ sI rfl;clear hd;refine ite_on (gcond_on rfl kR e12) ?_
 simp only[e21,e12]at hK ⊢;obtain⟨m0,b0,b1,b2,k_1,k_2⟩:=HS.out _ hG;go_simp
 exact hK _ _ rfl bR hG):p:=h
theorem xe13_9 {p:Prop} (h:p:=by
 have e31:x 51= .pointer (some ⟨g1,tn*2,none⟩):=hd ⟨31, .data⟩ sI rfl;have e12:x 32= .bool false:=hd ⟨12, .guard⟩ sI rfl;clear hd;refine ite_on (gcond_on rfl kR e12) ?_
 simp only[e31,e12]at hK ⊢;obtain⟨m0,b0,b1,b2,k_1,k_2⟩:=HS.out _ hG;go_simp
 exact hK _ _ rfl bR hG):p:=h
theorem xe13_10 {p:Prop} (h:p:=by
 have e18:x 38=pt w.heap.size 0:=hd ⟨18, .data⟩ sI rfl;have e12:x 32= .bool false:=hd ⟨12, .guard⟩ sI rfl;clear hd;refine ite_on (gcond_on rfl kR e12) ?_
 simp only[e18,e12]at hK ⊢;obtain⟨m0,b0,b1,b2,k_1,k_2⟩:=HS.out _ hG;go_simp
 exact hK _ _ rfl bR hG):p:=h
theorem xe13_11 {p:Prop} (h:p:=by
 have e28:x 48=pt w.heap.size 1:=hd ⟨28, .data⟩ sI rfl;have e12:x 32= .bool false:=hd ⟨12, .guard⟩ sI rfl;clear hd;refine ite_on (gcond_on rfl kR e12) ?_
 simp only[e28,e12]at hK ⊢;obtain⟨m0,b0,b1,b2,k_1,k_2⟩:=HS.out _ hG;go_simp
 exact hK _ _ rfl bR hG):p:=h
theorem xe13_12 {p:Prop} (h:p:=by
 have e16:x 36=pt p 0:=hd ⟨16, .data⟩ sI rfl;have e12:x 32= .bool false:=hd ⟨12, .guard⟩ sI rfl;clear hd;refine ite_on (gcond_on rfl kR e12) ?_
 simp only[e16,e12]at hK ⊢;obtain⟨m0,b0,b1,b2,k_1,k_2⟩:=HS.out _ hG;go_simp
 exact hK _ _ rfl bR hG):p:=h
theorem xe13_13 {p:Prop} (h:p:=by
 have e26:x 46=pt p 0:=hd ⟨26, .data⟩ sI rfl;have e12:x 32= .bool false:=hd ⟨12, .guard⟩ sI rfl;clear hd;refine ite_on (gcond_on rfl kR e12) ?_
 simp only[e26,e12]at hK ⊢;obtain⟨m0,b0,b1,b2,k_1,k_2⟩:=HS.out _ hG;go_simp
 exact hK _ _ rfl bR hG):p:=h
theorem xe13_14 {p:Prop} (h:p:=by
 have e20:x 40= .pointer (some ⟨g1,fn*2,none⟩):=hd ⟨20, .data⟩ sI rfl;have e12:x 32= .bool false:=hd ⟨12, .guard⟩ sI rfl;clear hd;refine ite_on (gcond_on rfl kR e12) ?_
 simp only[e20,e12]at hK ⊢;go_simp
 exact hK _ _ rfl bR hG):p:=h
theorem xe13_15 {p:Prop} (h:p:=by
 have e30:x 50= .pointer (some ⟨g1,tn*2,none⟩):=hd ⟨30, .data⟩ sI rfl;have e12:x 32= .bool false:=hd ⟨12, .guard⟩ sI rfl;clear hd;refine ite_on (gcond_on rfl kR e12) ?_
 simp only[e30,e12]at hK ⊢;go_simp
 exact hK _ _ rfl bR hG):p:=h
theorem xe13_16 {p:Prop} (h:p:=by
 have e13:x 33=pt p 0:=hd ⟨13, .data⟩ sI rfl;have e12:x 32= .bool false:=hd ⟨12, .guard⟩ sI rfl;clear hd;refine ite_on (gcond_on rfl kR e12) ?_
 simp only[e13,e12]at hK ⊢;go_simp
 exact hK _ _ rfl bR hG):p:=h
theorem xe13_17 {p:Prop} (h:p:=by
 have e14:x 34=pt p 0:=hd ⟨14, .data⟩ sI rfl;have e12:x 32= .bool false:=hd ⟨12, .guard⟩ sI rfl;clear hd;refine ite_on (gcond_on rfl kR e12) ?_
 simp only[e14,e12]at hK ⊢;go_simp
 exact hK _ _ rfl bR hG):p:=h
theorem xe13_18 {p:Prop} (h:p:=by
 have e15:x 35=pt p 0:=hd ⟨15, .data⟩ sI rfl;have e12:x 32= .bool false:=hd ⟨12, .guard⟩ sI rfl;clear hd;refine ite_on (gcond_on rfl kR e12) ?_
 simp only[e15,e12]at hK ⊢;go_simp
 exact hK _ _ rfl bR hG):p:=h
theorem xe13_19 {p:Prop} (h:p:=by
 have e23:x 43=pt p 0:=hd ⟨23, .data⟩ sI rfl;have e12:x 32= .bool false:=hd ⟨12, .guard⟩ sI rfl;clear hd;refine ite_on (gcond_on rfl kR e12) ?_
 simp only[e23,e12]at hK ⊢;go_simp
 exact hK _ _ rfl bR hG):p:=h
theorem xe13_20 {p:Prop} (h:p:=by
 have e24:x 44=pt p 0:=hd ⟨24, .data⟩ sI rfl;have e12:x 32= .bool false:=hd ⟨12, .guard⟩ sI rfl;clear hd;refine ite_on (gcond_on rfl kR e12) ?_
 simp only[e24,e12]at hK ⊢;go_simp
 exact hK _ _ rfl bR hG):p:=h
theorem xe13_21 {p:Prop} (h:p:=by
 have e25:x 45=pt p 0:=hd ⟨25, .data⟩ sI rfl;have e12:x 32= .bool false:=hd ⟨12, .guard⟩ sI rfl;clear hd;refine ite_on (gcond_on rfl kR e12) ?_
 simp only[e25,e12]at hK ⊢;go_simp
 exact hK _ _ rfl bR hG):p:=h
theorem fuses184 (h:WK t tl B w p v d) (hd:d.Ok) (i:Nat) (hi:i<d.ln.length) (q:Int):
  Calls Tryz.prog 184 #[pt p 0,i,q] w (RuleR t tl B p v w (d.fuses i)):=by
 obtain⟨la,ha⟩:=get_of hi;obtain⟨af,at',ah⟩:=la;obtain⟨⟨hf0,hf1⟩,ht0,ht1⟩:=hd.ln _ (List.mem_of_getElem? ha);dsimp only at hf0 hf1 ht0 ht1;obtain⟨fn,rfl⟩:=Int.eq_ofNat_of_zero_le hf0;obtain⟨tn,rfl⟩:=Int.eq_ofNat_of_zero_le ht0;have hn:=h.own.n2;have hn1:=h.own.n1;have hn2:=hd.n2;have hn1':=hd.n1;obtain⟨c0,c1,_,_,_,_,_,_,_,cf⟩:=h.nine;obtain⟨g,hA,a0,a1,a2,gf⟩:=h.own.lnAt ha;obtain⟨s1,hs1⟩:=get_of (l:=d.sp) (n:=fn) oM;obtain⟨s2,hs2⟩:=get_of (l:=d.sp) (n:=tn) oM;obtain⟨g1,hA1,e0,e1,ef⟩:=h.own.spAt hs1;obtain⟨g2,hA2,e2,e3,_⟩:=h.own.spAt hs2;rw[hA1]at hA2;cases hA2
 have hiz:(i:Int)<(v.n2:Int):=oM
 have hfz:(fn:Int)<(v.n1:Int):=oM
 have htz:(tn:Int)<(v.n1:Int):=oM
 obtain⟨bl,hbl⟩:∃bl,bl=(Line.mk (fn:Int) tn ah).loop:=⟨_,rfl⟩;obtain⟨M,hM⟩:∃M:Made,M=d.fuses i:=⟨_,rfl⟩
 have hM0:M=if bl=true∨ah=true∨s1.kind=0∨s1.kind≠s2.kind then none
     else some ((({d with ln:=(d.ln.eraseIdx i).map (Line.relab (min (fn:Int) tn) (max (fn:Int) tn))}:Diag).addPh (min (fn:Int) tn) (d.phaseAt (max (fn:Int) tn))).away (max (fn:Int) tn),[],0):=by
   rw[hM,hbl];unfold Diag.fuses;rw[ha];dsimp only;rw[kindAt_of hs1,kindAt_of hs2];rfl
 rw[←hM];clear hM;have HL:=fun W=>loop192 (fn:Int) tn ah W;rw[show ((fn:Int)==(tn:Int))=bl by rw[hbl];rfl]at HL;have HI:=fun {W:World} (h:WK t tl B W p v d)=>is193 h fn oM 0;rw[kindAt_of hs1]at HI;have HM:Aside (M=_):=hM0;have HA:Aside (v.A2=some ⟨g,0,none⟩∧v.A1=some ⟨g1,0,none⟩):=⟨hA,hA1⟩;have HK:Aside (WK t tl B w p v d):=h;have HO:Aside d.Ok:=hd;rw[hA]at c1;rw[hA1]at c0;obtain⟨W,hW⟩:∃W,W=w.alloc (.cells #[fn,tn, .bool ah] 77):=⟨_,rfl⟩;have hBX:Blk W w.heap.size [fn,tn, .bool ah] 77:=by rw[hW];exact Blk.new _ _ _
 have hKW:WK t tl B W p v d:=by rw[hW];exact h.alloc _
 have hAq:Aprt w.heap.size p v W:=by rw[hW];exact h.new_aprt _
 have HUW:Aside (Upd p v w v W):=by show Upd p v w v W;rw[hW];exact(Upd.refl p v w).alloc _
 have HBL:Aside (bl=false→fn≠tn):=by
  show _→_
  rintro h rfl;rw[hbl]at h;simp[Line.loop]at h
 have HSp:Aside (d.sp[fn]?=some s1∧d.sp[tn]?=some s2):=⟨hs1,hs2⟩
 have HS:Aside (∀wx,Below W.heap.size W wx→wx.cell? ⟨p,0,none⟩=some (.slice (some ⟨g1,0,none⟩) v.n1 v.c1)∧wx.cell? ⟨w.heap.size,0,none⟩=some (.int .i64 fn)∧wx.cell? ⟨w.heap.size,1,none⟩=some (.int .i64 tn)∧wx.cell? ⟨w.heap.size,2,none⟩=some (.bool ah)∧wx.cell? ⟨g1,fn*2,none⟩=some (.int .i64 s1.kind)∧wx.cell? ⟨g1,tn*2,none⟩=some (.int .i64 s2.kind)):=by
  intro wx hb;have hk:=hKW.below hb;obtain⟨m0,_,_,_,_,_,_,_,_,_⟩:=hk.nine;rw[hA1]at m0;have hx:=hBX.below hb;obtain⟨g3,hA3,k0,_,_⟩:=hk.own.spAt hs1;obtain⟨g4,hA4,k2,_,_⟩:=hk.own.spAt hs2;rw[hA1]at hA3 hA4;cases hA3
  cases hA4
  exact⟨m0,hx.cell 0 _ rfl,hx.cell 1 _ rfl,hx.cell 2 _ rfl,k0,k2⟩
 have hWs:W.heap.size=w.heap.size+1:=by rw[hW];simp
 clear hA hA1 hd h hM0 ha hs1 hs2 hbl;have HI':∃bk,((bk=true↔s1.kind=0))∧∀{W:World},WK t tl B W p v d→Calls Tryz.prog 193 #[pt p 0,fn, .int .i64 0] W fun e w'=>e= .returned (.bool bk)∧W=w':=⟨s1.kind==0,by simp,HI⟩;obtain⟨bk,hbk,HI2⟩:=HI'
 have HN:Aside (M≠none→bl=false∧ah=false∧bk=false∧s1.kind=s2.kind):=by
  show M≠none→_
  intro h0;rw[HM.out]at h0
  by_cases h1:bl=true∨ah=true∨s1.kind=0∨s1.kind≠s2.kind
  · rw[if_pos h1]at h0;exact(h0 rfl).elim
  have h2:bl=false:=by cases bl;rfl;exact(h1 (.inl rfl)).elim
  have h3:ah=false:=by cases ah;rfl;exact(h1 (.inr (.inl rfl))).elim
  have h4:bk=false:=by
   cases hb:bk with
   |false=>rfl
   |true=>exact(h1 (.inr (.inr (.inl (hbk.1 hb))))).elim
  exact⟨h2,h3,h4,Classical.byContradiction fun h5=>h1 (.inr (.inr (.inr h5)))⟩
 have HE:Aside (bl=false→ah=false→bk=false→s1.kind=s2.kind→M=some ((({d with ln:=(d.ln.eraseIdx i).map (Line.relab (min (fn:Int) tn) (max (fn:Int) tn))}:Diag).addPh (min (fn:Int) tn) (d.phaseAt (max (fn:Int) tn))).away (max (fn:Int) tn),[],0)):=by
  show _→_
  intro h1 h2 h3 h4;rw[HM.out,if_neg];have h5:s1.kind≠0:=fun h=>by rw[hbk.2 h]at h3;cases h3
  simp[h1,h2,h4,h5]
  rw[←h4];exact h5
 clear HM HI hbk;generalize s1.kind=k1 at *;generalize s2.kind=k2 at *
 cases bl with
 | true=>
  have HM0:Aside (M=none):=Classical.byContradiction fun h=>by have h9:=HN.out h;exact absurd h9.1 sI
  go_enter Tryz.func184,Tryz.ntmps184
  go_upto_region 2 with fail
  rw[←hW];clear hW
  refine wp_region_FG [(20,35)] (fun l u=>Below W.heap.size W u) (fun i u u'=>Below u.heap.size u u') (fun j x u=>match j with|0=>x 20= .agg #[fn,tn, .bool ah]|1=>x 21= .bool true|2=>x 22= .bool true|3=>x 23=undef|4=>x 24=undef|5=>x 25= .bool true|6=>x 26= .bool true|7=>x 27=undef|8=>x 28=undef|9=>x 29=undef|10=>x 30=undef|11=>x 31= .bool true|12=>x 32= .bool true|13=>x 33=undef|14=>x 34=undef|15=>x 35=undef|16=>x 36=undef|17=>x 37=undef|18=>x 38=undef|19=>x 39=undef|20=>x 40=undef|21=>x 41=undef|22=>x 42=undef|23=>x 43=undef|24=>x 44=undef|25=>x 45=undef|26=>x 46=undef|27=>x 47=undef|28=>x 48=undef|29=>x 49=undef|30=>x 50=undef|31=>x 51=undef|32=>x 52=undef|33=>x 53=undef|34=>x 54= .bool true|_=>True) ?h0 ?hkeep ?hstep ?d0
  case h0=>exact bR.drew
  case hkeep=>
   intro j i x l u u' hj hi hpre ht hG hR;exact ht
  case hstep=>
   dsimp only[fil,fls,fl,List.toList_toArray,Nat.reduceAdd];refine⟨?c0,?c1,?_,?c3,?c4,?_,?_,?c7,?c8,?c9,?c10,?_,?_,?c13,?c14,?c15,?c16,?c17,?c18,?c19,?c20,?c21,?c22,?c23,?c24,?c25,?c26,?c27,?c28,?c29,?c30,?c31,?c32,?c33,?_,trivial⟩
   all_goals intro l x u hG hno hli hpre hd K hK
   case c0=>
    clear hd;refine ite_on (gcond_none rfl) ?_
    obtain⟨m0,b0,b1,b2,k_1,k_2⟩:=HS.out _ hG;go_simp
    exact hK _ _ rfl bR hG
   case c1=>
    have e0:x 20= .agg #[fn,tn, .bool ah]:=hd ⟨0, .data⟩ sI rfl;clear hd;refine ite_on (gcond_none rfl) ?_
    simp only[e0]at hK ⊢;go_simp
    (with_reducible refine(HL _).mono ?_);rintro e w9 ⟨rfl,hb⟩
    exact hK _ _ rfl hb (below_then hG hb)
   case c3|c4=>
    have e2:x 22= .bool true:=hd ⟨2, .guard⟩ sI rfl;clear hd;refine ite_off (gcond_off rfl kR e2 rfl) ?_
    simp only[e2]at hK ⊢;exact hK undef _ rfl bR hG
   case c7|c8|c9=>
    have e6:x 26= .bool true:=hd ⟨6, .guard⟩ sI rfl;clear hd;refine ite_off (gcond_off rfl kR e6 rfl) ?_
    simp only[e6]at hK ⊢;exact hK undef _ rfl bR hG
   case c10=>
    have e6:x 26= .bool true:=hd ⟨6, .chain⟩ sI rfl;clear hd;refine ite_off (gcond_off rfl kR e6 rfl) ?_
    simp only[e6]at hK ⊢;exact hK undef _ rfl bR hG
   case c13|c14|c15|c16|c17|c18|c19|c20|c21|c22|c23|c24|c25|c26|c27|c28|c29|c30|c31|c32|c33=>
    have e12:x 32= .bool true:=hd ⟨12, .guard⟩ sI rfl;clear hd;refine ite_off (gcond_off rfl kR e12 rfl) ?_
    simp only[e12]at hK ⊢;exact hK undef _ rfl bR hG
   all_goals
    dsimp only at hd;simp only[eB]at hd
    try simp only[hd]at hK ⊢
    refine ite_on (gcond_none rfl) ?_
    go_simp
    exact hK _ _ rfl bR hG
  exact xe13_0
 | false =>
  cases ah with
  | true=>
   have HM0:Aside (M=none):=Classical.byContradiction fun h=>by have h9:=HN.out h;exact absurd h9.2.1 sI
   go_enter Tryz.func184,Tryz.ntmps184
   go_upto_region 2 with fail
   rw[←hW];clear hW
   refine wp_region_FG [(20,35)] (fun l u=>Below W.heap.size W u) (fun i u u'=>Below u.heap.size u u') (fun j x u=>match j with|0=>x 20= .agg #[fn,tn, .bool true]|1=>x 21= .bool false|2=>x 22= .bool false|3=>x 23=pt w.heap.size 2|4=>x 24= .bool true|5=>x 25= .bool true|6=>x 26= .bool true|7=>x 27=undef|8=>x 28=undef|9=>x 29=undef|10=>x 30=undef|11=>x 31= .bool true|12=>x 32= .bool true|13=>x 33=undef|14=>x 34=undef|15=>x 35=undef|16=>x 36=undef|17=>x 37=undef|18=>x 38=undef|19=>x 39=undef|20=>x 40=undef|21=>x 41=undef|22=>x 42=undef|23=>x 43=undef|24=>x 44=undef|25=>x 45=undef|26=>x 46=undef|27=>x 47=undef|28=>x 48=undef|29=>x 49=undef|30=>x 50=undef|31=>x 51=undef|32=>x 52=undef|33=>x 53=undef|34=>x 54= .bool true|_=>True) ?h0 ?hkeep ?hstep ?d1
   case h0=>exact bR.drew
   case hkeep=>
    intro j i x l u u' hj hi hpre ht hG hR;exact ht
   case hstep=>
    dsimp only[fil,fls,fl,List.toList_toArray,Nat.reduceAdd];refine⟨?c0,?c1,?_,?c3,?c4,?_,?_,?c7,?c8,?c9,?c10,?_,?_,?c13,?c14,?c15,?c16,?c17,?c18,?c19,?c20,?c21,?c22,?c23,?c24,?c25,?c26,?c27,?c28,?c29,?c30,?c31,?c32,?c33,?_,trivial⟩
    all_goals intro l x u hG hno hli hpre hd K hK
    case c0=>
     clear hd;refine ite_on (gcond_none rfl) ?_
     obtain⟨m0,b0,b1,b2,k_1,k_2⟩:=HS.out _ hG;go_simp
     exact hK _ _ rfl bR hG
    case c1=>
     have e0:x 20= .agg #[fn,tn, .bool true]:=hd ⟨0, .data⟩ sI rfl;clear hd;refine ite_on (gcond_none rfl) ?_
     simp only[e0]at hK ⊢;go_simp
     (with_reducible refine(HL _).mono ?_);rintro e w9 ⟨rfl,hb⟩
     exact hK _ _ rfl hb (below_then hG hb)
    case c3=>
     have e2:x 22= .bool false:=hd ⟨2, .guard⟩ sI rfl;clear hd;refine ite_on (gcond_on rfl kR e2) ?_
     simp only[e2]at hK ⊢;go_simp
     exact hK _ _ rfl bR hG
    case c4=>
     exact xe13_2
    case c7|c8|c9=>
     have e6:x 26= .bool true:=hd ⟨6, .guard⟩ sI rfl;clear hd;refine ite_off (gcond_off rfl kR e6 rfl) ?_
     simp only[e6]at hK ⊢;exact hK undef _ rfl bR hG
    case c10=>
     have e6:x 26= .bool true:=hd ⟨6, .chain⟩ sI rfl;clear hd;refine ite_off (gcond_off rfl kR e6 rfl) ?_
     simp only[e6]at hK ⊢;exact hK undef _ rfl bR hG
    case c13|c14|c15|c16|c17|c18|c19|c20|c21|c22|c23|c24|c25|c26|c27|c28|c29|c30|c31|c32|c33=>
     have e12:x 32= .bool true:=hd ⟨12, .guard⟩ sI rfl;clear hd;refine ite_off (gcond_off rfl kR e12 rfl) ?_
     simp only[e12]at hK ⊢;exact hK undef _ rfl bR hG
    all_goals
     dsimp only at hd;simp only[eB]at hd
     try simp only[hd]at hK ⊢
     refine ite_on (gcond_none rfl) ?_
     go_simp
     exact hK _ _ rfl bR hG
   exact xe13_0
  | false =>
   cases bk with
   | true=>
    have HM0:Aside (M=none):=Classical.byContradiction fun h=>by have h9:=HN.out h;exact absurd h9.2.2.1 sI
    go_enter Tryz.func184,Tryz.ntmps184
    go_upto_region 2 with fail
    rw[←hW];clear hW
    refine wp_region_FG [(20,35)] (fun l u=>Below W.heap.size W u) (fun i u u'=>Below u.heap.size u u') (fun j x u=>match j with|0=>x 20= .agg #[fn,tn, .bool false]|1=>x 21= .bool false|2=>x 22= .bool false|3=>x 23=pt w.heap.size 2|4=>x 24= .bool false|5=>x 25= .bool false|6=>x 26= .bool false|7=>x 27=pt p 0|8=>x 28=pt w.heap.size 0|9=>x 29=fn|10=>x 30= .bool true|11=>x 31= .bool true|12=>x 32= .bool true|13=>x 33=undef|14=>x 34=undef|15=>x 35=undef|16=>x 36=undef|17=>x 37=undef|18=>x 38=undef|19=>x 39=undef|20=>x 40=undef|21=>x 41=undef|22=>x 42=undef|23=>x 43=undef|24=>x 44=undef|25=>x 45=undef|26=>x 46=undef|27=>x 47=undef|28=>x 48=undef|29=>x 49=undef|30=>x 50=undef|31=>x 51=undef|32=>x 52=undef|33=>x 53=undef|34=>x 54= .bool true|_=>True) ?h0 ?hkeep ?hstep ?d2
    case h0=>exact bR.drew
    case hkeep=>
     intro j i x l u u' hj hi hpre ht hG hR;exact ht
    case hstep=>
     dsimp only[fil,fls,fl,List.toList_toArray,Nat.reduceAdd];refine⟨?c0,?c1,?_,?c3,?c4,?_,?_,?c7,?c8,?c9,?c10,?_,?_,?c13,?c14,?c15,?c16,?c17,?c18,?c19,?c20,?c21,?c22,?c23,?c24,?c25,?c26,?c27,?c28,?c29,?c30,?c31,?c32,?c33,?_,trivial⟩
     all_goals intro l x u hG hno hli hpre hd K hK
     case c0=>
      clear hd;refine ite_on (gcond_none rfl) ?_
      obtain⟨m0,b0,b1,b2,k_1,k_2⟩:=HS.out _ hG;go_simp
      exact hK _ _ rfl bR hG
     case c1=>
      exact xe13_5
     case c3=>
      have e2:x 22= .bool false:=hd ⟨2, .guard⟩ sI rfl;clear hd;refine ite_on (gcond_on rfl kR e2) ?_
      simp only[e2]at hK ⊢;go_simp
      exact hK _ _ rfl bR hG
     case c4=>
      exact xe13_2
     case c7|c8=>
      have e6:x 26= .bool false:=hd ⟨6, .guard⟩ sI rfl;clear hd;refine ite_on (gcond_on rfl kR e6) ?_
      simp only[e6]at hK ⊢;go_simp
      exact hK _ _ rfl bR hG
     case c9=>
      exact xe13_4
     case c10=>
      exact xe13_3
     case c13|c14|c15|c16|c17|c18|c19|c20|c21|c22|c23|c24|c25|c26|c27|c28|c29|c30|c31|c32|c33=>
      have e12:x 32= .bool true:=hd ⟨12, .guard⟩ sI rfl;clear hd;refine ite_off (gcond_off rfl kR e12 rfl) ?_
      simp only[e12]at hK ⊢;exact hK undef _ rfl bR hG
     all_goals
      dsimp only at hd;simp only[eB]at hd
      try simp only[hd]at hK ⊢
      refine ite_on (gcond_none rfl) ?_
      go_simp
      exact hK _ _ rfl bR hG
    exact xe13_0
   | false=>
    by_cases hne:k1=k2
    · subst hne;go_enter Tryz.func184,Tryz.ntmps184
      go_upto_region 2 with fail
      rw[←hW];clear hW
      refine wp_region_FG [(20,35)] (fun l u=>Below W.heap.size W u) (fun i u u'=>Below u.heap.size u u') (fun j x u=>match j with|0=>x 20= .agg #[fn,tn, .bool false]|1=>x 21= .bool false|2=>x 22= .bool false|3=>x 23=pt w.heap.size 2|4=>x 24= .bool false|5=>x 25= .bool false|6=>x 26= .bool false|7=>x 27=pt p 0|8=>x 28=pt w.heap.size 0|9=>x 29=fn|10=>x 30= .bool false|11=>x 31= .bool false|12=>x 32= .bool false|13=>x 33=pt p 0|14=>x 34=pt p 0|15=>x 35=pt p 0|16=>x 36=pt p 0|17=>x 37= .slice (some ⟨g1,0,none⟩) v.n1 v.c1|18=>x 38=pt w.heap.size 0|19=>x 39=fn|20=>x 40= .pointer (some ⟨g1,fn*2,none⟩)|21=>x 41= .pointer (some ⟨g1,fn*2,none⟩)|22=>x 42=k1|23=>x 43=pt p 0|24=>x 44=pt p 0|25=>x 45=pt p 0|26=>x 46=pt p 0|27=>x 47= .slice (some ⟨g1,0,none⟩) v.n1 v.c1|28=>x 48=pt w.heap.size 1|29=>x 49=tn|30=>x 50= .pointer (some ⟨g1,tn*2,none⟩)|31=>x 51= .pointer (some ⟨g1,tn*2,none⟩)|32=>x 52=k1|33=>x 53= .bool false|34=>x 54= .bool false|_=>True) ?h0 ?hkeep ?hstep ?d3
      case h0=>exact bR.drew
      case hkeep=>
       intro j i x l u u' hj hi hpre ht hG hR;exact ht
      case hstep=>
       dsimp only[fil,fls,fl,List.toList_toArray,Nat.reduceAdd];refine⟨?c0,?c1,?_,?c3,?c4,?_,?_,?c7,?c8,?c9,?c10,?_,?_,?c13,?c14,?c15,?c16,?c17,?c18,?c19,?c20,?c21,?c22,?c23,?c24,?c25,?c26,?c27,?c28,?c29,?c30,?c31,?c32,?c33,?_,trivial⟩
       all_goals intro l x u hG hno hli hpre hd K hK
       case c0=>
        clear hd;refine ite_on (gcond_none rfl) ?_
        obtain⟨m0,b0,b1,b2,k_1,k_2⟩:=HS.out _ hG;go_simp
        exact hK _ _ rfl bR hG
       case c1=>
        exact xe13_5
       case c3=>
        have e2:x 22= .bool false:=hd ⟨2, .guard⟩ sI rfl;clear hd;refine ite_on (gcond_on rfl kR e2) ?_
        simp only[e2]at hK ⊢;go_simp
        exact hK _ _ rfl bR hG
       case c4=>
        exact xe13_2
       case c7|c8=>
        have e6:x 26= .bool false:=hd ⟨6, .guard⟩ sI rfl;clear hd;refine ite_on (gcond_on rfl kR e6) ?_
        simp only[e6]at hK ⊢;go_simp
        exact hK _ _ rfl bR hG
       case c9=>
        exact xe13_4
       case c10=>
        exact xe13_3
       case c13|c18|c23|c28=>
        have e12:x 32= .bool false:=hd ⟨12, .guard⟩ sI rfl;clear hd;refine ite_on (gcond_on rfl kR e12) ?_
        simp only[e12]at hK ⊢;go_simp
        exact hK _ _ rfl bR hG
       case c14=>
        exact xe13_16
       case c15=>
        exact xe13_17
       case c16=>
        exact xe13_18
       case c17=>
        exact xe13_12
       case c19=>
        exact xe13_10
       case c20=>
        exact xe13_6
       case c21=>
        exact xe13_14
       case c22=>
        exact xe13_8
       case c24=>
        exact xe13_19
       case c25=>
        exact xe13_20
       case c26=>
        exact xe13_21
       case c27=>
        exact xe13_13
       case c29=>
        exact xe13_11
       case c30=>
        exact xe13_7
       case c31=>
        exact xe13_15
       case c32=>
        exact xe13_9
       case c33=>
        have e22:x 42= .int .i64 k1:=hd ⟨22, .data⟩ sI rfl;have e32:x 52= .int .i64 k1:=hd ⟨32, .data⟩ sI rfl;have e12:x 32= .bool false:=hd ⟨12, .guard⟩ sI rfl;clear hd;refine ite_on (gcond_on rfl kR e12) ?_
        simp only[e22,e32,e12]at hK ⊢;go_simp
        exact hK _ _ rfl bR hG
       all_goals
        dsimp only at hd;simp only[eB]at hd
        try simp only[hd]at hK ⊢
        refine ite_on (gcond_none rfl) ?_
        go_simp
        exact hK _ _ rfl bR hG
      dsimp only[fil,fls,fl,List.toList_toArray,Nat.reduceAdd];rintro l x u hall hG ⟨_,_,_,_,_,_,_,_,_,_,_,_,_,_,_,_,_,_,_,_,_,_,_,_,_,_,_,_,_,_,_,_,_,_,e34,_⟩;clear hall;generalize x 54=z54 at e34 ⊢;subst e34;have HM9:Aside (M=_):=HE.out sI sI sI sI;have hKu:=hKW.below hG;have hBu:=hBX.below hG;have hAu:=hAq.le (w':=u) hG.size;have HUu:Aside (Upd p v w v u):=HUW.out.then_below hG
      obtain⟨mn,mx,hmn,hmx,hml,hxl,hmc⟩:∃mn mx:Nat,(mn:Int)=min (fn:Int) tn∧(mx:Int)=max (fn:Int) tn∧mn<d.sp.length∧mx<d.sp.length∧(((tn:Int)<fn∧mn=tn∧mx=fn)∨(((fn:Int)<tn∧¬(tn:Int)<fn)∧mn=fn∧mx=tn)):=by
       have h8:=HBL.out sI
       by_cases h9:(tn:Int)<fn
       · exact⟨tn,fn,oM,oM,oM,oM, .inl ⟨h9,rfl,rfl⟩⟩
       exact⟨fn,tn,oM,oM,oM,oM, .inr ⟨⟨oM,h9⟩,rfl,rfl⟩⟩
      rw[←hmn,←hmx]at HM9;have x0:=hBu.cell 0 _ rfl;have x1:=hBu.cell 1 _ rfl;have hwi:IntKind.i64.wrap ((i:Int)+1)=(i:Int)+1:=IntWalk.i64_in _ oM;clear hmn hmx HS HSp HN HE HL HI2 hKW hBX hAq c0 c1 a0 a1 a2 e0 e1 e2 e3 hG
      go_upto_region 4 with fail
      go_cut [9,10] (fun s9 s10 wx=>s9=mn∧s10=mx∧Aside (WK t tl B wx p v d)∧Aside (Upd p v w v wx))
      case first=>
       rcases hmc with⟨h9,rfl,rfl⟩|⟨⟨h8,h9⟩,rfl,rfl⟩
       all_goals
        go_region
        all_goals (go_wp2_with fail;go_meet)
        all_goals exact⟨rfl,rfl,hKu.drew,HUu.out.drew⟩
      obtain⟨rfl,rfl,HKd,HUd⟩:=hcut;have hKd:=HKd.out;have hol:=hKd.own.ln;rw[HA.out.1]at hol;have H194:=del194 (some ⟨g,0,none⟩) v.n2 v.c2 i B d.ln wc hol oM oM;have hx:=hKd.nine.2.1;rw[HA.out.1]at hx;clear hmc hol x0 x1
      go_upto_region 6 with(go_at_call 194;(with_reducible refine H194.mono ?_);rintro e w3 ⟨rfl,ho3,hT3⟩;obtain⟨hK7,hU7,hc7,hf7⟩:=cut_put hKd HA.out.1 hT3 ho3)
      have HK7:Aside _:=hK7;have HU7:Aside _:=HUd.out.trans hU7;have hl7:(d.cutLn i).ln.length=v.n2-1:=hK7.own.n2;obtain⟨d7,hd7⟩:∃d7,d7=d.cutLn i:=⟨_,rfl⟩;rw[←hd7]at hl7 HK7;have HD7:Aside (d7=d.cutLn i):=hd7;have HL7:Aside (d7.ln.length=v.n2-1):=hl7;obtain⟨v7,hv7⟩:∃v7:DV,v7={v with A2:=some ⟨g,0,none⟩,n2:=v.n2-1,c2:=v.c2}:=⟨_,rfl⟩;rw[←hv7]at HK7 HU7;have HV7:Aside (v7.A2=some ⟨g,0,none⟩∧v7.n2=v.n2-1∧v7.c2=v.c2∧v7.A1=some ⟨g1,0,none⟩∧v7.n1=v.n1∧v7.c1=v.c1):=by rw[hv7];exact⟨rfl,rfl,rfl,HA.out.2,rfl,rfl⟩
      generalize World.setCell w3 _ _=w7 at *;clear hd7 hv7 hl7 hK7 hU7 hc7 hf7 hT3 ho3 H194 hx hBu hAu hKd hKu HKd HUd;have hx:=HK7.out.nine.2.1;rw[HV7.out.1,HV7.out.2.1,HV7.out.2.2.1]at hx;go_wp2_with fail
      go_loopg [84] (v.n2-1) (fun gg s84 wr=>∃jj:Nat,jj≤v.n2-1∧v.n2-1-jj≤gg∧s84=jj∧Aside (WK t tl B wr p v7 {d7 with ln:=(d7.ln.take jj).map (Line.relab mn mx)++d7.ln.drop jj})∧Aside (Upd p v7 w7 v7 wr))
      case atStart=>exact⟨0,Nat.zero_le _,oM,rfl,by simpa [Aside] using HK7.out,Upd.refl _ _ _⟩
      obtain⟨jj,hjn,hgg,rfl,hO,hT⟩:=hrel
      by_cases hlt:jj<v.n2-1
      · have hltz:(jj:Int)<((v.n2-1:Nat):Int):=oM
        obtain⟨ly,hly⟩:=get_of (l:=d7.ln) (n:=jj) (by rw[HL7.out];exact hlt);have hxm:=map_take_at (Line.relab (mn:Int) mx) hly;have hol:=hO.out.own.ln;rw[HV7.out.1,HV7.out.2.1,HV7.out.2.2.1]at hol;have l0:wr.cell? ⟨g,jj*3,none⟩=some (.int .i64 ly.f):=by simpa using ownsRow_at lnC_len hol hxm (j:=0) rfl
        have l1:=ownsRow_at lnC_len hol hxm (j:=1) rfl;have hz:=hO.out.nine.2.1;rw[HV7.out.1,HV7.out.2.1,HV7.out.2.2.1]at hz
        have hgp:g≠p:=by
         rintro rfl;exact hO.out.np (by simp[blks,HV7.out.1,ownB])
        have hpg:p≠g:=fun e=>hgp e.symm;have HN:Aside (((d7.ln.take jj).map (Line.relab mn mx)++d7.ln.drop jj).set jj (ly.relab mn mx)=(d7.ln.take (jj+1)).map (Line.relab mn mx)++d7.ln.drop (jj+1)):=map_take_drop (Line.relab (mn:Int) mx) hly
        have HJ:Aside (jj<((d7.ln.take jj).map (Line.relab mn mx)++d7.ln.drop jj).length):=by
         show _<_
         rw[List.length_append,List.length_map,List.length_take,List.length_drop,HL7.out];omega
        have hG0:AwG t tl B p v7 d7 ((d7.ln.take jj).map (Line.relab mn mx)++d7.ln.drop jj) jj ly (ly.relab mn mx) wr false false wr:=by
         refine⟨?_,Upd.refl _ _ _⟩
         have h5:((d7.ln.take jj).map (Line.relab mn mx)++d7.ln.drop jj).set jj (mixL ly (ly.relab mn mx) false false)=(d7.ln.take jj).map (Line.relab mn mx)++d7.ln.drop jj:=list_set_self hxm;rw[h5];exact hO.out
        obtain⟨_,_,_,lfz⟩:=hG0.cells HV7.out.1 HJ.out;clear hol hxm hly hx
        by_cases f1:ly.f=(mx:Int)
        · by_cases f2:ly.t=(mx:Int)
          · skip
            have hr1:(Line.relab (mn:Int) mx ly).f=mn:=by simp[Line.relab,relabI,f1]
            have hr2:(Line.relab (mn:Int) mx ly).t=mn:=by simp[Line.relab,relabI,f2]
            have hG2:=((hG0.st1 HV7.out.1 HJ.out).st2 HV7.out.1 HJ.out);rw[hr1]at hG2;rw[hr2]at hG2;exact xe13_1
          skip
          have hr1:(Line.relab (mn:Int) mx ly).f=mn:=by simp[Line.relab,relabI,f1]
          have hr2:(Line.relab (mn:Int) mx ly).t=ly.t:=by simp[Line.relab,relabI,f2]
          have hG2:=((hG0.st1 HV7.out.1 HJ.out).skip2 hr2);rw[hr1]at hG2;exact xe13_1
        by_cases f2:ly.t=(mx:Int)
        · skip
          have hr1:(Line.relab (mn:Int) mx ly).f=ly.f:=by simp[Line.relab,relabI,f1]
          have hr2:(Line.relab (mn:Int) mx ly).t=mn:=by simp[Line.relab,relabI,f2]
          have hG2:=((hG0.skip1 hr1).st2 HV7.out.1 HJ.out);rw[hr2]at hG2;exact xe13_1
        skip
        have hr1:(Line.relab (mn:Int) mx ly).f=ly.f:=by simp[Line.relab,relabI,f1]
        have hr2:(Line.relab (mn:Int) mx ly).t=ly.t:=by simp[Line.relab,relabI,f2]
        have hG2:=((hG0.skip1 hr1).skip2 hr2);exact xe13_1
      have hltz:¬(jj:Int)<((v.n2-1:Nat):Int):=oM
      have hjj:jj=v.n2-1:=oM
      have hall:(d7.ln.take jj).map (Line.relab mn mx)++d7.ln.drop jj=d7.ln.map (Line.relab mn mx):=by
       rw[List.take_of_length_le (by rw[HL7.out,hjj];exact Nat.le_refl _),List.drop_eq_nil_of_le (by rw[HL7.out,hjj];exact Nat.le_refl _),List.append_nil]
      rw[hall]at hO;have hK8:=hO.out;have e8:({d7 with ln:=d7.ln.map (Line.relab mn mx)}:Diag).sp=d.sp:=by rw[HD7.out];rfl
      obtain⟨s,hs⟩:=get_of (l:=d.sp) (n:=mx) hxl;have hs8:({d7 with ln:=d7.ln.map (Line.relab mn mx)}:Diag).sp[mx]?=some s:=by rw[e8];exact hs
      obtain⟨g9,hA9,k0,k1',_⟩:=hK8.own.spAt hs8;rw[HV7.out.2.2.2.1]at hA9;cases hA9
      have hm0:=hK8.nine.1;rw[HV7.out.2.2.2.1,HV7.out.2.2.2.2.1,HV7.out.2.2.2.2.2]at hm0;have hxz:(mx:Int)<(v.n1:Int):=oM
      have hsp:=HO.out.sp s (List.mem_of_getElem? hs);have H195:=add195 hK8 mn (by rw[e8];exact hml) s.phase oM oM (by rw[e8];exact fun s hs=>(HO.out.sp s hs).2);have hU8:Aside (Upd p v w v7 wr):=HU7.out.trans hT.out
      have hLim:Aside (Diag.Lim (({d7 with ln:=d7.ln.map (Line.relab mn mx)}:Diag).addPh mn s.phase)):=by
       show Diag.Lim _
       refine⟨fun l hl=>?_,?_,?_⟩
       · have hl2:l∈d7.ln.map (Line.relab mn mx):=hl;obtain⟨l',hl',rfl⟩:=List.mem_map.1 hl2;rw[HD7.out]at hl';have h1:=HO.out.ln l' (List.mem_of_mem_eraseIdx hl');have h2:=HO.out.n1;simp only[Line.relab,relabI]
         constructor<;>split<;>omega
       · have h1:=HO.out.lim.ins;rw[HD7.out];exact h1
       have h1:=HO.out.lim.outs;rw[HD7.out];exact h1
      have hb1:mx<v7.n1:=by have:=HV7.out.2.2.2.2.1;omega
      have hb2:v7.n1≤100000:=by have:=HV7.out.2.2.2.2.1;omega
      have hb3:v7.n2≤100000:=by have:=HV7.out.2.1;omega
      have hb4:v7.n3≤100000:=by
       have h1:=hK8.own.n3;have h2:=HO.out.n3;rw[HD7.out]at h1;have h3:d.ins.length=v7.n3:=h1;omega
      have hb5:v7.n4≤100000:=by
       have h1:=hK8.own.n4;have h2:=HO.out.n4;rw[HD7.out]at h1;have h3:d.outs.length=v7.n4:=h1;omega
      have HB:Aside (mx<v7.n1∧v7.n1≤100000∧v7.n2≤100000∧v7.n3≤100000∧v7.n4≤100000):=⟨hb1,hb2,hb3,hb4,hb5⟩
      have HMF:Aside (M=some ((({d7 with ln:=d7.ln.map (Line.relab mn mx)}:Diag).addPh mn s.phase).away mx,[],0)):=by
       show M=_
       rw[HM9.out,phaseAt_of hs,HD7.out];rfl
      have HLF:Aside (((({d7 with ln:=d7.ln.map (Line.relab mn mx)}:Diag).addPh mn s.phase).away mx).ln.length≤100):=by
       show (((d7.ln.map (Line.relab mn mx)).filter _).map _).length≤100
       rw[List.length_map];refine Nat.le_trans (List.length_filter_le _ _) ?_
       rw[List.length_map,HL7.out];omega
      clear hs hs8 e8 hK8 hx hall hb1 hb2 hb3 hb4 hb5
      go_wp2_with (first
        |(go_at_call 195;(with_reducible refine H195.mono ?_);rintro e w8 ⟨⟨z8,rfl⟩,hK9,hU9⟩;have H181:=away181 hK9 hLim.out mx HB.out.1 HB.out.2.1 HB.out.2.2.1 HB.out.2.2.2.1 HB.out.2.2.2.2;clear H195)
        |(go_at_call 181;(with_reducible refine H181.mono ?_);rintro e w9 ⟨⟨z9,rfl⟩,v9,hK10,hU10⟩;clear H181))
      refine bodyPost_ret (v:= .tuple #[.bool true, .int .i64 0]) (by simp[results,Tryz.results184,go_sem]) rfl (by rw[HMF.out];exact RuleR.id hK10 ((hU8.out.trans hU9).trans hU10) HLF.out)
    have hne2:(k1 != k2)=true:=by simpa using hne
    have HM0:Aside (M=none):=Classical.byContradiction fun h=>by have h9:=HN.out h;exact absurd h9.2.2.2 hne
    go_enter Tryz.func184,Tryz.ntmps184
    go_upto_region 2 with fail
    rw[←hW];clear hW
    refine wp_region_FG [(20,35)] (fun l u=>Below W.heap.size W u) (fun i u u'=>Below u.heap.size u u') (fun j x u=>match j with|0=>x 20= .agg #[fn,tn, .bool false]|1=>x 21= .bool false|2=>x 22= .bool false|3=>x 23=pt w.heap.size 2|4=>x 24= .bool false|5=>x 25= .bool false|6=>x 26= .bool false|7=>x 27=pt p 0|8=>x 28=pt w.heap.size 0|9=>x 29=fn|10=>x 30= .bool false|11=>x 31= .bool false|12=>x 32= .bool false|13=>x 33=pt p 0|14=>x 34=pt p 0|15=>x 35=pt p 0|16=>x 36=pt p 0|17=>x 37= .slice (some ⟨g1,0,none⟩) v.n1 v.c1|18=>x 38=pt w.heap.size 0|19=>x 39=fn|20=>x 40= .pointer (some ⟨g1,fn*2,none⟩)|21=>x 41= .pointer (some ⟨g1,fn*2,none⟩)|22=>x 42=k1|23=>x 43=pt p 0|24=>x 44=pt p 0|25=>x 45=pt p 0|26=>x 46=pt p 0|27=>x 47= .slice (some ⟨g1,0,none⟩) v.n1 v.c1|28=>x 48=pt w.heap.size 1|29=>x 49=tn|30=>x 50= .pointer (some ⟨g1,tn*2,none⟩)|31=>x 51= .pointer (some ⟨g1,tn*2,none⟩)|32=>x 52=k2|33=>x 53= .bool true|34=>x 54= .bool true|_=>True) ?h0 ?hkeep ?hstep ?d4
    case h0=>exact bR.drew
    case hkeep=>
     intro j i x l u u' hj hi hpre ht hG hR;exact ht
    case hstep=>
     dsimp only[fil,fls,fl,List.toList_toArray,Nat.reduceAdd];refine⟨?c0,?c1,?_,?c3,?c4,?_,?_,?c7,?c8,?c9,?c10,?_,?_,?c13,?c14,?c15,?c16,?c17,?c18,?c19,?c20,?c21,?c22,?c23,?c24,?c25,?c26,?c27,?c28,?c29,?c30,?c31,?c32,?c33,?_,trivial⟩
     all_goals intro l x u hG hno hli hpre hd K hK
     case c0=>
      clear hd;refine ite_on (gcond_none rfl) ?_
      obtain⟨m0,b0,b1,b2,k_1,k_2⟩:=HS.out _ hG;go_simp
      exact hK _ _ rfl bR hG
     case c1=>
      exact xe13_5
     case c3=>
      have e2:x 22= .bool false:=hd ⟨2, .guard⟩ sI rfl;clear hd;refine ite_on (gcond_on rfl kR e2) ?_
      simp only[e2]at hK ⊢;go_simp
      exact hK _ _ rfl bR hG
     case c4=>
      exact xe13_2
     case c7|c8=>
      have e6:x 26= .bool false:=hd ⟨6, .guard⟩ sI rfl;clear hd;refine ite_on (gcond_on rfl kR e6) ?_
      simp only[e6]at hK ⊢;go_simp
      exact hK _ _ rfl bR hG
     case c9=>
      exact xe13_4
     case c10=>
      exact xe13_3
     case c13|c18|c23|c28=>
      have e12:x 32= .bool false:=hd ⟨12, .guard⟩ sI rfl;clear hd;refine ite_on (gcond_on rfl kR e12) ?_
      simp only[e12]at hK ⊢;go_simp
      exact hK _ _ rfl bR hG
     case c14=>
      exact xe13_16
     case c15=>
      exact xe13_17
     case c16=>
      exact xe13_18
     case c17=>
      exact xe13_12
     case c19=>
      exact xe13_10
     case c20=>
      exact xe13_6
     case c21=>
      exact xe13_14
     case c22=>
      exact xe13_8
     case c24=>
      exact xe13_19
     case c25=>
      exact xe13_20
     case c26=>
      exact xe13_21
     case c27=>
      exact xe13_13
     case c29=>
      exact xe13_11
     case c30=>
      exact xe13_7
     case c31=>
      exact xe13_15
     case c32=>
      exact xe13_9
     case c33=>
      have e22:x 42= .int .i64 k1:=hd ⟨22, .data⟩ sI rfl;have e32:x 52= .int .i64 k2:=hd ⟨32, .data⟩ sI rfl;have e12:x 32= .bool false:=hd ⟨12, .guard⟩ sI rfl;clear hd;refine ite_on (gcond_on rfl kR e12) ?_
      simp only[e22,e32,e12]at hK ⊢;go_simp
      exact hK _ _ rfl bR hG
     all_goals
      dsimp only at hd;simp only[eB]at hd
      try simp only[hd]at hK ⊢
      refine ite_on (gcond_none rfl) ?_
      go_simp
      exact hK _ _ rfl bR hG
    exact xe13_0
end Go.Proofs.YtcoackmdmohnhaaGreatDoor
