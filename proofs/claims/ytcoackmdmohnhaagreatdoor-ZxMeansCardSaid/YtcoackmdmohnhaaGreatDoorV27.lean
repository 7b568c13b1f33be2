/- Contracts of functions, and plain lemmas; each theorem's conditions stand in its statement. -/
import Derived.Test.YtcoackmdmohnhaaGreatDoorV26
import Derived.Test.YtcoackmdmohnhaaGreatDoorV24
set_option linter.unusedVariables false
set_option linter.unusedSimpArgs false
set_option maxRecDepth 100000
set_option maxHeartbeats 4000000
namespace Go.Proofs.YtcoackmdmohnhaaGreatDoor
section
variable {α:Type} {i:Nat} {d:Diag}
theorem countP_modify_same (p:α→Bool) (f:α→α) (h:∀x,p (f x)=p x):∀(l:List α) (n:Nat),(l.modify n f).countP p=l.countP p
 |[],n=>by simp
 |x::l,0=>by simp[List.countP_cons,h]
 | x::l,n+1=>by
  rw[List.modify_succ_cons,List.countP_cons,List.countP_cons,countP_modify_same p f h l n]
theorem countP_modify_less (p:α→Bool) (f:α→α):∀(l:List α) (n:Nat) (x:α),l[n]?=some x→p x=true→p (f x)=false→(l.modify n f).countP p+1=l.countP p
 |[],n,x,h,_,_=>by simp at h
 | y::l,0,x,h,h1,h2=>by
  simp at h
  subst h;simp[List.countP_cons,h1,h2]
 | y::l,n+1,x,h,h1,h2=>by
  have ih:=countP_modify_less p f l n x sH h1 h2;rw[List.modify_succ_cons,List.countP_cons,List.countP_cons];omega
theorem size_less {e:Diag} (h:d.sp.length≤40) (h1:e.sp.length<d.sp.length) (h2:e.ln.length≤100):e.size<d.size:=by
 have:=List.countP_le_length (p:=fun s:Spider=>decide (s.kind=2)) (l:=e.sp);unfold Diag.size;omega
theorem size_ln {e:Diag} (h1:e.sp.length=d.sp.length) (h3:e.sp.countP (fun s=>decide (s.kind=2))=d.sp.countP (fun s=>decide (s.kind=2))) (h2:e.ln.length<d.ln.length):e.size<d.size:=by
 unfold Diag.size;rw[h1,h3];omega
theorem len_away {n:Int} (h0:0≤n) (hn:n<d.sp.length):(d.away n).sp.length=d.sp.length-1:=by
 show (d.sp.eraseIdx n.toNat).length=_
 rw[List.length_eraseIdx_of_lt oM]
theorem addPh_count (d:Diag) (n q:Int):(d.addPh n q).sp.countP (fun s=>decide (s.kind=2))=d.sp.countP (fun s=>decide (s.kind=2)):=
 countP_modify_same (fun s:Spider=>decide (s.kind=2)) (Spider.add q) (fun _=>rfl) d.sp n.toNat
theorem rule_size (h:d.Inv) {r:Int} {j:Nat} {x:Diag × List Num × Int} (h1:1≤r) (h8:r≤8) (hi:¬lined r=true→i<d.sp.length) (ht:r=2→d.kindAt i=2) (he:d.rule r i j=some x) (hx:x.1.ln.length≤100):x.1.size<d.size:=by
 have hok:=h.ok;have n1:=hok.n1;have hln:=hok.ln;have hcs:r=1∨r=2∨r=3∨r=4∨r=5∨r=6∨r=7∨r=8:=oM
 have rng:∀{k:Nat} {l:Line},d.ln[k]?=some l→(0≤l.f∧l.f<d.sp.length)∧0≤l.t∧l.t<d.sp.length:=fun h=>hln _ (List.mem_of_getElem? h);obtain⟨d',l',n'⟩:=x;simp only at hx ⊢
 rcases hcs with rfl|rfl|rfl|rfl|rfl|rfl|rfl|rfl
 · simp only[Diag.rule,if_true]at he;unfold Diag.fuses at he
   split at he
   · cases he
   rename_i l hl
   have hr:=rng hl
   split at he
   · cases he
   cases he
   refine size_less n1 ?_ hx
   have hh:0≤l.hi∧l.hi<d.sp.length:=by unfold Line.hi;omega
   rw[len_away hh.1 (by rw[len_addPh];exact hh.2),len_addPh];show d.sp.length-1<_
   omega
 · simp only[Diag.rule,if_true]at he;rw[if_neg dE]at he;have hk:=ht rfl;unfold Diag.turns at he
   split at he
   · cases he
   cases he
   simp only[Int.toNat_natCast]
   have hs:∃s,d.sp[i]?=some s∧s.kind=2:=by
    unfold Diag.kindAt at hk;simp only[Int.toNat_natCast]at hk
    split at hk
    · exact⟨_,‹_›,hk⟩
    cases hk
   obtain⟨s,hs1,hs2⟩:=hs;have hc:=countP_modify_less (fun s:Spider=>decide (s.kind=2)) (fun s=>⟨3-s.kind,s.phase⟩) d.sp i s hs1 (by simp[hs2]) (by simp[hs2]);unfold Diag.size;simp only[List.length_modify,List.length_map];omega
 · simp only[Diag.rule,if_true]at he;rw[if_neg dE,if_neg dE]at he;unfold Diag.loops at he
   split at he
   · cases he
   rename_i l hl
   have hlt:=(List.getElem?_eq_some_iff.1 hl).1
   have hc:(d.cutLn i).ln.length<d.ln.length:=by
    show (d.ln.eraseIdx i).length<_
    rw[List.length_eraseIdx_of_lt hlt];omega
   split at he
   · cases he
   split at he
   · cases he
     exact size_ln rfl rfl hc
   cases he
   exact size_ln (len_addPh _ _ _) (addPh_count _ _ _) hc
 · simp only[Diag.rule,if_true]at he;rw[if_neg dE,if_neg dE,if_neg dE]at he;have hi':=hi dE;unfold Diag.units at he
   split at he
   · cases he
   split at he
   · split at he
     · cases he
     cases he
     exact size_less n1 (by rw[len_away oM (by simpa using hi')];show d.sp.length-1<_;omega) hx
   cases he
 · simp only[Diag.rule,if_true]at he;rw[if_neg dE,if_neg dE,if_neg dE,if_neg dE]at he;unfold Diag.pairs at he
   split at he
   · rename_i a b ha hb
     have hlt:=(List.getElem?_eq_some_iff.1 ha).1;have hltj:=(List.getElem?_eq_some_iff.1 hb).1
     have c1:(d.cutLn i).ln.length<d.ln.length:=by
      show (d.ln.eraseIdx i).length<_
      rw[List.length_eraseIdx_of_lt hlt];omega
     have c2:(d.cutLn j).ln.length<d.ln.length:=by
      show (d.ln.eraseIdx j).length<_
      rw[List.length_eraseIdx_of_lt hltj];omega
     have c3:((d.cutLn j).cutLn i).ln.length<d.ln.length:=by
      have:((d.cutLn j).ln.eraseIdx i).length≤(d.cutLn j).ln.length:=List.length_eraseIdx_le _ _;show ((d.cutLn j).ln.eraseIdx i).length<_
      omega
     split at he
     · cases he
     split at he
     · cases he
       exact size_ln rfl rfl c3
     · cases he
       exact size_ln (len_addPh _ _ _) (addPh_count _ _ _) c1
     · cases he
       exact size_ln (len_addPh _ _ _) (addPh_count _ _ _) c2
     cases he
     exact size_ln rfl rfl c2
   cases he
 · simp only[Diag.rule,if_true]at he;rw[if_neg dE,if_neg dE,if_neg dE,if_neg dE,if_neg dE]at he;have hi':=hi dE;unfold Diag.drops at he
   split at he
   · cases he
   cases he
   exact size_less n1 (by rw[len_away oM (by simpa using hi')];omega) hx
 · simp only[Diag.rule,if_true]at he;rw[if_neg dE,if_neg dE,if_neg dE,if_neg dE,if_neg dE,if_neg dE]at he;have hi':=hi dE;unfold Diag.comps at he
   split at he
   · cases he
   split at he
   · cases he
   cases he
   refine size_less n1 ?_ hx
   rw[len_away oM (by show (i:Int)<((Diag.addAll d _ _).sp.length:Int);rw[len_addAll];omega)];show (Diag.addAll d _ _).sp.length-1<_
   rw[len_addAll];omega
 simp only[Diag.rule]at he;rw[if_neg dE,if_neg dE,if_neg dE,if_neg dE,if_neg dE,if_neg dE,if_neg dE]at he;unfold Diag.pivots at he
 split at he
 · cases he
 rename_i y hy
 have hr:=rng hy;dsimp only at he
 split at he
 · cases he
 split at he
 · cases he
   refine size_less n1 ?_ hx
   have hlen:∀(e:Diag) (m:Int),(e.away m).sp.length≤e.sp.length:=fun e m=>List.length_eraseIdx_le _ _;refine Nat.lt_of_le_of_lt (hlen _ _) ?_
   have hh:0≤y.hi∧y.hi<d.sp.length:=by unfold Line.hi;omega
   rw[len_away hh.1 (by rw[len_addAll,len_addAll,len_addAll];exact hh.2),len_addAll,len_addAll,len_addAll];show d.sp.length-1<_
   omega
 cases he
theorem step_eq (d:Diag) (s:Rewrite) (h:(d.step s).2=0):(1≤s.rule∧s.rule≤8)∧(0≤s.at_∧s.at_<((if lined s.rule then d.ln.length else d.sp.length):Int))∧d.step s=Diag.finish (Diag.rule {d with sc:=d.sc.form} s.rule s.at_.toNat s.other.toNat):=by
 unfold Diag.step at h ⊢
 by_cases h1:s.rule<1∨8<s.rule
 · rw[if_pos h1]at h;exact absurd h (show¬(3:Int)=0 by decide)
 rw[if_neg h1]at h
 by_cases h2:s.at_<0∨((if lined s.rule then d.ln.length else d.sp.length):Int)≤s.at_∨(s.rule=5∧(s.other<0∨(d.ln.length:Int)≤s.other))∨(s.rule≠5∧s.other≠0)
 · rw[if_pos h2]at h;exact absurd h (show¬(1:Int)=0 by decide)
 rw[if_neg h1,if_neg h2];exact⟨oM,oM,rfl⟩
theorem finish_zero {d':Diag} {l:List Num} {n:Int} (h:(Diag.finish (some (d',l,n))).2=0):d'.ln.length≤100∧∃s,(Diag.finish (some (d',l,n))).1={d' with sc:=s}:=by
 unfold Diag.finish at h ⊢;dsimp only at h ⊢
 by_cases h1:100<d'.ln.length
 · rw[if_pos h1]at h;exact absurd h (show¬(2:Int)=0 by decide)
 rw[if_neg h1]at h
 by_cases h2:(d'.sc.finP l n).2=0
 · rw[if_neg h1,if_pos h2];exact⟨oM,_,rfl⟩
 rw[if_neg h2]at h;exact absurd h (show¬(8:Int)=0 by decide)
theorem step_size (h:d.Inv) {r:Int} {o:Int} (ht:r=2→d.kindAt i=2) (h0:(d.step ⟨r,i,o⟩).2=0):(d.step ⟨r,i,o⟩).1.size<d.size:=by
 obtain⟨hr,hb,he⟩:=step_eq d _ h0;rw[he]at h0 ⊢;simp only[Int.toNat_natCast]at h0 hr hb ⊢;have hI:({d with sc:=d.sc.form}:Diag).Inv:=h.setSc (Num.check_form h.ok.sc);generalize hm:Diag.rule {d with sc:=d.sc.form} r i o.toNat=x at h0 ⊢
 cases x with
 |none=>exact absurd h0 (show¬(7:Int)=0 by decide)
 | some x=>
  obtain⟨d',l',n'⟩:=x;obtain⟨h100,s,hs⟩:=finish_zero h0;have hz:(Diag.finish (some (d',l',n'))).1.size=d'.size:=by rw[hs];rfl
  generalize (Diag.finish (some (d',l',n'))).1=y at hz ⊢;rw[hz]
  have hlt:¬lined r=true→i<d.sp.length:=fun hl=>by
   have h3:=hb.2;rw[if_neg hl]at h3;omega
  have h9:=rule_size hI (r:=r) (i:=i) (j:=o.toNat) hr.1 hr.2 hlt ht hm h100;simp only[Diag.size]at h9 ⊢;exact h9
theorem ite_or {c:Prop} [Decidable c] {x y z:α} (h:(if c then x else y)=z):x=z∨y=z:=by
 split at h
 · exact .inl h
 exact .inr h
theorem try1_good (h:d.Inv) {r:Int} (ht:r=2→d.kindAt i=2) {x:Rewrite × Diag}:∀(n k:Nat),d.try1 r i k n=some x→x.2.Inv∧x.2.size<d.size
 |0,k,he=>by cases he
 | n+1,k,he=>by
  rw[Diag.try1]at he
  rcases ite_or he with he|he
  · exact try1_good h ht n (k+1) he
  by_cases h0:(d.step ⟨r,i,k⟩).2=0
  · rw[if_pos h0]at he;simp only[Option.some.injEq]at he;subst he;exact⟨h.stepI h0,step_size h ht h0⟩
  rw[if_neg h0]at he;exact try1_good h ht n (k+1) he
theorem tries_good (h:d.Inv) {r:Int} {x:Rewrite × Diag}:∀(n i:Nat),d.tries r i n=some x→x.2.Inv∧x.2.size<d.size
 |0,i,he=>by cases he
 | n+1,i,he=>by
  rw[Diag.tries]at he
  split at he
  · exact tries_good h n (i+1) he
  rename_i hk
  split at he
  · rename_i y hy
    cases he
    exact try1_good h (fun h2=>Classical.byContradiction fun h3=>hk ⟨h2,h3⟩) _ _ hy
  exact tries_good h n (i+1) he
theorem nextL_good (h:d.Inv) {x:Rewrite × Diag}:∀l:List Int,d.nextL l=some x→x.2.Inv∧x.2.size<d.size
 |[],he=>by cases he
 | r::l,he=>by
  rw[Diag.nextL]at he
  split at he
  · rename_i y hy
    cases he
    exact tries_good h _ _ hy
  exact nextL_good h l he
theorem next_good (h:d.Inv) {s:Rewrite} {e:Diag} (he:d.next=some (s,e)):e.Inv∧e.size<d.size:=nextL_good h _ he
theorem simpL_more (h:d.Inv):∀(n m:Nat) (l:List Rewrite),d.size<n→d.size<m→Diag.simpL n d l=Diag.simpL m d l:=by
 intro n
 induction n generalizing d with
 |zero=>intro m l hn;omega
 | succ n ih=>
  intro m l hn hm;obtain⟨m,rfl⟩:∃k,m=k+1:=⟨m-1,oM⟩;simp only[Diag.simpL]
  cases hx:d.next with
  |none=>rfl
  | some x=>
   obtain⟨s,e⟩:=x;have hg:=next_good h hx;exact ih hg.1 m _ oM oM
end
section
open Go.RowKit Go.Shelf
end
section
open Go.RowKit Go.Shelf
variable {B:Nat} {w:World} {w':World} {v:DV} {v':DV} {d:Diag}
structure FoI (B ob nb:Nat) (v:DV) (d:Diag) (w0 w:World):Prop where
 own:OwnD B w v d
 o:Blk w ob (l9 v d.sc) 28
 z:Blk w nb z9 28
 off:∀b∈blks v,b≠ob∧b≠nb
 inv:d.Inv
 low:Below B w0 w
theorem FoI.step {ob nb:Nat} {d':Diag} {w0 u:World} (h:FoI B ob nb v d w0 w) (hn:ob≠nb) (hB:B≤ob) (hu:Below w.heap.size w u) (ho:OwnD u.heap.size w' v' d') (hb:Below u.heap.size u w') (hi:d'.Inv):FoI B ob nb v' d' w0 (set9 w' ob (.slice v'.A1 v'.n1 v'.c1) (.slice v'.A2 v'.n2 v'.c2) (.slice v'.A3 v'.n3 v'.c3) (.slice v'.A4 v'.n4 v'.c4) d'.sc.a d'.sc.b d'.sc.c d'.sc.d d'.sc.k):=by
 have h1:=hu.size;have h2:=h.o.lt;have h3:=h.z.lt;have hw:Below w.heap.size w w':=below_then hu hb;have hT:=touch_set9 w' ob (.slice v'.A1 v'.n1 v'.c1) (.slice v'.A2 v'.n2 v'.c2) (.slice v'.A3 v'.n3 v'.c3) (.slice v'.A4 v'.n4 v'.c4) d'.sc.a d'.sc.b d'.sc.c d'.sc.d d'.sc.k;refine⟨(ho.touch hT (fun y hy hm=>by simp at hm;subst hm;have:=(ho.lt y hy).1;omega)).mono oM,(h.o.below hw).set9 _ _ _ _ _ _ _ _ _,(h.z.below hw).touch hT (fun hm=>by simp at hm;exact hn hm.symm),fun y hy=>?_,hi,(h.low.trans (hw.mono oM)).trans (hT.below (Nat.le_trans (by omega:B≤w.heap.size) hw.size) (fun y hy=>by simp at hy;omega))⟩
 have:=(ho.lt y hy).1;omega
end
section
open Go.RowKit Go.Shelf
variable {N:Nat} {d:Diag}
def Rewrite.w (x:Rewrite):Rew:=⟨x.rule,x.at_,x.other⟩
def RetS (B:Nat) (r:Diag × List Rewrite × Int) (w:World) (e:Ending) (w':World):Prop:=
 ∃v A n c,e= .returned (.tuple #[diaV v r.1.sc, .slice A n c,r.2.2])∧OwnD B w' v r.1∧w'.ownsRow B 47 3 (.slice A n c) n ((r.2.1.map Rewrite.w).flatMap rwC)∧Below w.heap.size w w'
structure SmI (B ob nb:Nat) (v:DV) (d:Diag) (w0 w:World) (A:Option Addr) (n c:Nat) (xs:List Rewrite):Prop where
 f:FoI B ob nb v d w0 w
 row:w.ownsRow B 47 3 (.slice A n c) n ((xs.map Rewrite.w).flatMap rwC)
 off:∀b∈ownB A,b≠ob∧b≠nb∧b∉blks v
theorem size_big (h:d.Inv):d.size≤500000:=by
 have h1:=h.ok.n1;have h2:=h.ok.n2;have:=List.countP_le_length (p:=fun s:Spider=>decide (s.kind=2)) (l:=d.sp);unfold Diag.size;omega
theorem simpL_some {e:Diag} {s:Rewrite} {l:List Rewrite} (h:d.Inv) (hn:d.next=some (s,e)):Diag.simpL (d.size+1) d l=Diag.simpL (e.size+1) e (l++[s]):=by
 have hg:=next_good h hn;rw[Diag.simpL,hn];exact simpL_more hg.1 d.size (e.size+1) _ oM oM
theorem simpL_none {l:List Rewrite} (hn:d.next=none):Diag.simpL (d.size+1) d l=(d,l):=by
 rw[Diag.simpL,hn]
theorem simplify30 (v:DV) (d:Diag) (w:World) (hd:DRd w v d) (hs:v.n3+v.n4≤4398046511104) (hG:Glob N w) (hN:N≤w.heap.size):
  Calls Tryz.prog 30 #[diaV v d.sc] w (RetS w.heap.size d.simplify w):=by
 obtain⟨W,hW⟩:∃W,W=((w.alloc (.cells (a9 v d.sc) 28)).alloc (.cells zA 28)):=⟨_,rfl⟩
 have hX1:Blk W w.heap.size (l9 v d.sc) 28:=by
  rw[hW];have h9:=((Blk.new w (a9 v d.sc) 28).alloc (.cells zA 28));simpa using h9
 have hX2:Blk W (w.heap.size+1) z9 28:=by
  rw[hW];have h9:=(Blk.new (w.alloc (.cells (a9 v d.sc) 28)) zA 28);simpa using h9
 have hBW:Below w.heap.size w W:=by rw[hW];exact(bR.alloc (by simp;try omega) _).alloc (by simp;try omega) _
 have hsz:W.heap.size=w.heap.size+2:=by rw[hW];simp
 generalize hX2b:w.heap.size+1=X2b at hX2;have H51:=opened51 v d W (hd.below hBW) hs;have HB1:=Lib.hid hX1;have HB3:=Lib.hid hX2;have HBW:=Lib.hid hBW;have HSZ:Aside (W.heap.size=w.heap.size+2∧X2b=w.heap.size+1):=⟨hsz,hX2b.symm⟩;have HG:=Lib.hid (hG.below hBW hN);have HNN:Aside (N≤w.heap.size):=hN;have HW:=Lib.hid hW;have HG0:=Lib.hid hG;have a_c:=hX1.nine;clear hW hX1 hX2 hBW hsz hd hG hN
 by_cases hc:d.check=0
 · have HS0:Aside (d.simplify=((Diag.simpL (({d with sc:=d.sc.form}:Diag).size+1) {d with sc:=d.sc.form} []).1,(Diag.simpL (({d with sc:=d.sc.form}:Diag).size+1) {d with sc:=d.sc.form} []).2,0)):=by
    show d.simplify=_
    unfold Diag.simplify;rw[if_pos hc];rfl
   have HI:Aside (({d with sc:=d.sc.form}:Diag).Inv):=(Diag.inv_of_check hc).setSc (Num.check_form (Diag.inv_of_check hc).ok.sc);simp only[if_pos hc]at H51;generalize hd0:({d with sc:=d.sc.form}:Diag)=d0 at H51 HS0 HI;clear hc hd0;go_enter Tryz.func30,Tryz.ntmps30
   go_upto_region 1 with fail
   try rw[hX2b]
   rw[←HW.out];clear hX2b
   go_upto_region 4 with (go_at_call 51;(with_reducible refine H51.mono ?_);rintro e w1 ⟨hb1,p,v1,rfl,hK1⟩;clear H51
                          obtain⟨c0,c1,c2,c3,c4,c5,c6,c7,c8,cf⟩:=hK1.nine;have HK1:=Lib.hid hK1;have HB1x:=Lib.hid hb1
                          clear hb1 hK1 a_c)
   go_upto_region 5 with fail
   obtain⟨ob,hob⟩:∃ob,ob=w1.heap.size:=⟨_,rfl⟩;obtain⟨W2,hW2⟩:∃W2,W2=w1.alloc (.cells (a9 v1 d0.sc) 28):=⟨_,rfl⟩
   have hF0:SmI w.heap.size ob X2b v1 d0 w W2 none 0 0 []:=by
    have hk:=HK1.out;have hb12:Below w1.heap.size w1 W2:=by rw[hW2];exact bR.alloc (Nat.le_refl _) _
    have hsz:=HSZ.out;have hlow:Below w.heap.size w w1:=HBW.out.trans (HB1x.out.mono HBW.out.size);refine⟨⟨(hk.below hb12).own.mono HBW.out.size,(by rw[hW2,hob];exact Blk.new _ _ _),(HB3.out.below HB1x.out).below hb12,fun y hy=>?_,HI.out,hlow.trans (hb12.mono hlow.size)⟩,⟨rfl, .inl ⟨rfl,rfl⟩⟩,fun b hb=>by simp[ownB]at hb⟩
    have:=hk.own.lt y hy;omega
   have HON:Aside (ob≠X2b∧w.heap.size≤ob):=by
    have h1:=HSZ.out;have h2:=HB1x.out.size;have h3:=HB3.out.lt;show _∧_
    omega
   rw[←hW2,←hob];have HF0:=Lib.hid hF0;clear hF0 hW2 hob c0 c1 c2 c3 c4 c5 c6 c7 c8 cf;go_wp2_with fail
   go_loopg [8] (d0.size+1) (fun gg s8 wr=>∃(v2:DV) (d2:Diag) (A:Option Addr) (n c:Nat) (xs:List Rewrite),d2.size+1≤gg∧s8= .slice A n c∧n+d2.size≤d0.size∧Aside (SmI w.heap.size ob X2b v2 d2 w wr A n c xs)∧Aside (Diag.simpL (d0.size+1) d0 []=Diag.simpL (d2.size+1) d2 xs))
   case atStart=>exact⟨v1,d0,none,0,0,[],Nat.le_refl _,rfl,oM,HF0.out,rfl⟩
   obtain⟨v2,d2,A,n,c,xs,hgg,rfl,hnd,hS,hE⟩:=hrel;have o_c:=hS.out.f.o.nine;have H82:=next82 (N:=N) v2 d2 wr hS.out.f.own.rd hS.out.f.inv (HG0.out.below hS.out.f.low HNN.out) (by have:=HNN.out;have:=hS.out.f.low.size;omega);obtain⟨nx,hnx⟩:∃nx,nx=d2.next:=⟨_,rfl⟩;rw[←hnx]at H82;have HNX:=Lib.hid hnx;clear hnx
   cases nx with
   | none=>
    have HE2:Aside (d.simplify=(d2,xs,0)):=by
     show _=_
     rw[HS0.out,hE.out,simpL_none HNX.out.symm]
    go_upto_region 7 with(go_at_call 82;(with_reducible refine H82.mono ?_);rintro e w2 ⟨hb2,rfl⟩;clear H82;have HB2:=Lib.hid hb2;clear hb2)
    obtain⟨W5,hW5⟩:∃W5,W5=(w2.alloc (.cells #[.int .i64 0, .int .i64 0, .int .i64 0] 47)).alloc (.cells (a9 nilDV Diag.nil.sc) 28):=⟨_,rfl⟩;rw[←hW5];have hb5:Below wr.heap.size wr W5:=by rw[hW5];exact below_then HB2.out ((bR.alloc (Nat.le_refl _) _).alloc sI _)
    have p_c:=(hS.out.f.o.below hb5).nine;obtain⟨z0,z1,z2,z3,z4,z5,z6,z7,z8,zf⟩:=(hS.out.f.z.below hb5).nine;have HZ:=Lib.hid (hS.out.f.z.below hb5);have hlow5:=hS.out.f.low.trans (hb5.mono hS.out.f.low.size);have HL5:=Lib.hid hlow5;have HO5:=Lib.hid (hS.out.f.own.touch (Touch.of_below hb5) sI);have HR5:=Lib.hid (ownsRow_touch hS.out.row (Touch.of_below hb5) sI);clear hW5 hb5 hlow5 o_c;go_wp2_with fail
    have hq:=HZ.out.set9 (.slice v2.A1 v2.n1 v2.c1) (.slice v2.A2 v2.n2 v2.c2) (.slice v2.A3 v2.n3 v2.c3) (.slice v2.A4 v2.n4 v2.c4) d2.sc.a d2.sc.b d2.sc.c d2.sc.d d2.sc.k;refine bodyPost_ret (v:= .tuple #[diaV v2 d2.sc, .slice A n c, .int .i64 0]) (by simp[results,Tryz.results30,go_sem,hq.nine]) rfl ?_
    rw[HE2.out];refine⟨v2,A,n,c,rfl,HO5.out.touch (touch_set9 _ _ _ _ _ _ _ _ _ _ _) (fun y hy hm=>by simp at hm;exact(hS.out.f.off y hy).2 hm),ownsRow_touch HR5.out (touch_set9 _ _ _ _ _ _ _ _ _ _ _) (fun y hy hm=>by simp at hm;exact(hS.out.off y (ownBlock_ownB hy)).2.1 hm),HL5.out.trans ((touch_set9 _ _ _ _ _ _ _ _ _ _ _).below HL5.out.size (fun x hx=>by have:=HSZ.out;simp at hx;omega))⟩
   | some x=>
    obtain⟨s,d5⟩:=x;obtain⟨r,a,o⟩:=s;have HGD:Aside (d5.Inv∧d5.size<d2.size):=next_good hS.out.f.inv HNX.out.symm;have hgd:=HGD.out.2;have HE2:Aside (Diag.simpL (d0.size+1) d0 []=Diag.simpL (d5.size+1) d5 (xs++[⟨r,a,o⟩])):=hE.out.trans (simpL_some hS.out.f.inv HNX.out.symm);have HSB:=size_big HI.out
    go_upto_region 7 with(go_at_call 82;(with_reducible refine H82.mono ?_);rintro e w2 ⟨hb2,v5,rfl,hO5⟩;clear H82;have HB2:=Lib.hid hb2;have HO5:=Lib.hid hO5;clear hb2 hO5)
    obtain⟨W5,hW5⟩:∃W5,W5=(w2.alloc (.cells #[r,a,o] 47)).alloc (.cells (a9 v5 d5.sc) 28):=⟨_,rfl⟩;rw[←hW5];have hb25:Below w2.heap.size w2 W5:=by rw[hW5];exact(bR.alloc (Nat.le_refl _) _).alloc sI _
    have hb5:Below wr.heap.size wr W5:=below_then HB2.out hb25;have h47:Blk W5 w2.heap.size [r,a,o] 47:=by rw[hW5];exact(Blk.new w2 _ 47).alloc _
    have h28:Blk W5 (w2.heap.size+1) (l9 v5 d5.sc) 28:=by
     rw[hW5];have h9:=Blk.new (w2.alloc (.cells #[r,a,o] 47)) (a9 v5 d5.sc) 28;simpa using h9
    have hs5:W5.heap.size=w2.heap.size+2:=by rw[hW5];simp
    generalize hsb:w2.heap.size=sb at h47 h28 hs5;generalize hdb:sb+1=db at h28
    try rw[hsb]
    try rw[hdb]
    have hrl:=ownsRow_lt hS.out.row;have HAV:Aside ((∀b∈ownB A,b<wr.heap.size)∧wr.heap.size≤sb∧db=sb+1∧W5.heap.size=sb+2∧ob<wr.heap.size∧X2b<wr.heap.size∧w.heap.size≤wr.heap.size):=⟨fun b hb=>(hrl b hb).2,by have:=HB2.out.size;omega,hdb.symm,hs5,hS.out.f.o.lt,hS.out.f.z.lt,hS.out.f.low.size⟩;have HROW:Aside (∀u,Below W5.heap.size W5 u→u.ownsRow w.heap.size 47 3 (.slice A n c) n ((xs.map Rewrite.w).flatMap rwC)):=fun u hu=>ownsRow_touch (ownsRow_touch hS.out.row (Touch.of_below hb5) sI) (Touch.of_below hu) sI;have HOB:Aside (∀u,Touch (ownB A) W5 u→Blk u ob (l9 v2 d2.sc) 28):=fun u hu=>(hS.out.f.o.below hb5).touch hu (fun hm=>(hS.out.off _ hm).1 rfl)
    have HS9:Aside (∀u,Touch (ownB A) W5 u→Blk u sb [r,a,o] 47∧Blk u db (l9 v5 d5.sc) 28):=fun u hu=>⟨h47.touch hu (fun hm=>by have h1:=HAV.out.1 _ hm;have h2:=HAV.out.2.1;omega),h28.touch hu (fun hm=>by have h1:=HAV.out.1 _ hm;have h2:=HAV.out.2;omega)⟩;have hBW:w.heap.size≤W5.heap.size:=by have:=HAV.out;omega
    have HB5:=Lib.hid hb5;have HB25:Aside (Below sb w2 W5):=by rw[←hsb];exact hb25
    have HSBE:Aside (w2.heap.size=sb):=hsb;have t_c:=h28.nine;clear hW5 hb25 hb5 h47 h28 hs5 hsb hdb hrl o_c
    go_upto_region 9 with fail
    clear t_c
    refine wp_region_stepsX kR (fun x=>{tmps:=#[diaV v d.sc,pt w.heap.size 0,pt X2b 0,u3,u4,pt p 0, .int .i64 0,pt ob 0,x 8,pt sb 0,pt db 0, .bool true, .tuple #[pt p 0, .int .i64 0], .agg (a9 v d.sc), .tuple #[pt p 0, .int .i64 0],pt p 0, .int .i64 0, .int .i64 0, .bool false,undef,undef,pt p 0,pt p 0,pt p 0, .agg (a9 v1 d0.sc), .tuple #[.agg #[r,a,o],diaV v5 d5.sc, .bool true], .agg (a9 v2 d2.sc), .tuple #[.agg #[r,a,o],diaV v5 d5.sc, .bool true], .agg #[r,a,o],diaV v5 d5.sc, .bool true, .bool true, .bool false,u33,u34,x 35,x 36,x 37,x 38,x 39],defers:=[]}) (fun j=>match j with|8=> .slice A n c|35=>u35|36=>u36|37=>u37|38=>u38|39=>u39|_=>undef) rfl (fun l x u=>(l 4=false→Below W5.heap.size W5 u)∧(l 5=false→Touch (ownB A) W5 u)∧(l 6=false→x 8= .slice A n c)) (fun i u u'=>match i with|4=>Touch (ownB A) u u'|5=>Touch [ob] u u'|_=>Below u.heap.size u u') (fun j=>match j with|0=>[35]|1=>[36]|2=>[37]|3=>[38]|4=>[39]|5=>[]|6=>[8,39]|_=>[]) (fun j x u=>match j with|0=>x 35= .agg (a9 v5 d5.sc)|1=>x 36= .slice A n c|2=>x 37= .agg #[r,a,o]|3=>∃q,x 38= .slice (some ⟨q,0,none⟩) 1 1∧W5.heap.size≤q∧Rd 3 rwC u (some ⟨q,0,none⟩) 1 [(⟨r,a,o⟩:Rew)]|4=>∃A' c',x 39= .slice A' (n+1) c'∧u.ownsRow w.heap.size 47 3 (.slice A' (n+1) c') (n+1) (((xs.map Rewrite.w)++[(⟨r,a,o⟩:Rew)]).flatMap rwC)∧∀b∈ownB A',b∈ownB A∨W5.heap.size≤b|5=>Blk u ob (l9 v5 d5.sc) 28∧Touch (ob::ownB A) W5 u|6=>x 8=x 39|_=>True) kR ?hput kR kR ?h0 ?hkeep ?hloc ?hstep ?hend
    case hput=>repeat' first|exact True.intro|apply And.intro|(intro d hd x v;cases hd<;>rfl)
    case h0=>exact⟨fun _=>bR.drew,fun _=>(Touch.refl _ _).drew,fun _=>rfl⟩
    case hkeep=>
     intro j9 i9 x l u u' hj hi hpre ht hG hR
     by_cases h3:j9=3
     · subst h3;obtain⟨q,k1,k2,k3⟩:=ht;refine⟨q,k1,k2,?_⟩
       by_cases hi4:i9=4
       · subst hi4;have hR':Touch (ownB A) u u':=hR;exact k3.touch hR' (fun b hb y hy hyb=>by cases hy;have h8:=HAV.out.1 b hb;have h7:=HAV.out.2;have h9:q=b:=hyb;omega)
       by_cases hi5:i9=5
       · subst hi5;have hR':Touch [ob] u u':=hR;exact k3.touch hR' (fun b hb y hy hyb=>by cases hy;simp at hb;have h7:=HAV.out.2;have h9:q=b:=hyb;omega)
       exact k3.below (by have h9:=hR;split at h9<;>first|exact(hi4 rfl).elim|exact(hi5 rfl).elim|exact h9)
     by_cases h4:j9=4
     · subst h4;obtain⟨A',c',k1,k2,k3⟩:=ht;refine⟨A',c',k1,?_,k3⟩
       by_cases hi4:i9=4
       · subst hi4;rw[hj]at hi;cases hi
       by_cases hi5:i9=5
       · subst hi5;have hR':Touch [ob] u u':=hR;refine ownsRow_touch k2 hR' (fun b hb hm=>?_)
         simp at hm
         subst hm
         rcases k3 _ (ownBlock_ownB hb) with k4|k4
         · exact(hS.out.off _ k4).1 rfl
         have:=HAV.out.2;omega
       exact ownsRow_touch k2 (Touch.of_below (by have h9:=hR;split at h9<;>first|exact(hi4 rfl).elim|exact(hi5 rfl).elim|exact h9)) sI
     by_cases h5:j9=5
     · subst h5
       by_cases hi5:i9=5
       · subst hi5;rw[hj]at hi;cases hi
       by_cases hi4:i9=4
       · subst hi4;have h9:=hpre 4 kR;rw[hi]at h9;cases h9
       have hR':Below u.heap.size u u':=by have h9:=hR;split at h9<;>first|exact(hi4 rfl).elim|exact(hi5 rfl).elim|exact h9
       exact⟨ht.1.below hR',ht.2.then_below hR'⟩
     exact(by have h9:=ht;clear ht;split at h9<;>first|exact h9|exact(h3 rfl).elim|exact(h4 rfl).elim|exact(h5 rfl).elim)
    case hloc=>repeat' first|exact True.intro|apply And.intro|exact fun x x' u h ht=>ht|(intro x x' u h ht;simp only[List.mem_cons,List.not_mem_nil,or_false,forall_eq_or_imp,forall_eq]at h;simp only[h]at ht;exact ht)
    case hstep=>
     refine⟨?_,?c1,?_,?c3,?c4,?c5,?c6,trivial⟩
     case c1=>
      intro l x u hG hno hli hpre hd K hK;clear hd;have h8:=hG.2.2 (hno 6 kR);generalize k8:x 8=z8 at h8 hK ⊢;subst h8;go_simp
      exact hK _ _ rfl bR ⟨fun h=>hG.1 sH,fun h=>hG.2.1 sH,fun h=>by simpa [updV] using k8⟩
     case c3=>
      intro l x u hG hno hli hpre hd K hK;have e2:x 37= .agg #[r,a,o]:=hd ⟨2, .data⟩ sI rfl;clear hd;simp only[e2]at hK ⊢;have hBl:=hG.1 (hno 4 kR);go_simp
      exact hK _ _ ⟨_,rfl,hBl.size,Rd.one (Blk.new _ _ _)⟩ (bR.alloc (Nat.le_refl _) _) ⟨fun _=>hBl.alloc hBl.size _,fun h=>(hG.2.1 (hno 5 kR)).alloc _,fun h=>by simpa [updV] using hG.2.2 sH⟩
     case c4=>
      intro l x u hG hno hli hpre hd K hK;have e1:x 36= .slice A n c:=hd ⟨1, .data⟩ sI rfl;have e3:∃q,x 38= .slice (some ⟨q,0,none⟩) 1 1∧W5.heap.size≤q∧Rd 3 rwC u (some ⟨q,0,none⟩) 1 [(⟨r,a,o⟩:Rew)]:=hd ⟨3, .data⟩ sI rfl;clear hd;simp only[e1]at hK ⊢;have hBl:=hG.1 hli;have hTc:=hG.2.1 (hno 5 kR);obtain⟨q,h38,hq,hR⟩:=e3;generalize k38:x 38=z38 at h38 hK ⊢;subst h38;refine wp_append_rows (.tmp 36) (.tmp 38) 53 rfl 47 3 _ 24 inf47 Tryz.underlying53 rfl dE rwC_len rwC_one dE w.heap.size _ _ _ rfl _ (HROW.out _ hBl) _ _ _ rfl (fun h=>nomatch h) [(⟨r,a,o⟩:Rew)] hR oM dE (Nat.le_trans hBW hBl.size) ?_
      intro v9 w9 hAp;obtain⟨A',c',rfl,hown,htch,hnb⟩:=hAp;exact hK _ _ ⟨A',c',rfl,hown,fun b hb=>(hnb b hb).imp id (Nat.le_trans hBl.size)⟩ htch ⟨fun h=>by simp at h,fun _=>hTc.trans htch (fun x hx=> .inl hx),fun h=>by simpa [updV] using hG.2.2 sH⟩
     case c5=>
      intro l x u hG hno hli hpre hd K hK;have e0:x 35= .agg (a9 v5 d5.sc):=hd ⟨0, .data⟩ sI rfl;clear hd;simp only[e0]at hK ⊢;have hTc:=hG.2.1 hli;have hob:=HOB.out _ hTc;have g_c:=hob.nine;have hset:=hob.set9 (.slice v5.A1 v5.n1 v5.c1) (.slice v5.A2 v5.n2 v5.c2) (.slice v5.A3 v5.n3 v5.c3) (.slice v5.A4 v5.n4 v5.c4) d5.sc.a d5.sc.b d5.sc.c d5.sc.d d5.sc.k;have hts:=touch_set9 u ob (.slice v5.A1 v5.n1 v5.c1) (.slice v5.A2 v5.n2 v5.c2) (.slice v5.A3 v5.n3 v5.c3) (.slice v5.A4 v5.n4 v5.c4) d5.sc.a d5.sc.b d5.sc.c d5.sc.d d5.sc.k;clear hob;go_simp
      exact hK undef _ ⟨hset,(hTc.mono (by intro y hy;simp[hy])).trans hts (fun y hy=>by simp at hy;subst hy;exact .inl sI)⟩ hts ⟨fun h=>by simp[hpre 4 kR]at h,fun h=>by simp at h,fun h=>hG.2.2 sH⟩
     case c6=>
      intro l x u hG hno hli hpre hd K hK;have e4:∃A' c',x 39= .slice A' (n+1) c'∧u.ownsRow w.heap.size 47 3 (.slice A' (n+1) c') (n+1) (((xs.map Rewrite.w)++[(⟨r,a,o⟩:Rew)]).flatMap rwC)∧∀b∈ownB A',b∈ownB A∨W5.heap.size≤b:=hd ⟨4, .data⟩ sI rfl;clear hd;go_simp
      exact hK _ _ rfl bR ⟨fun h=>hG.1 sH,fun h=>hG.2.1 sH,fun h=>by simp at h⟩
     all_goals
      intro l x u hG hno hli hpre hd K hK;dsimp only at hd;simp only[eB]at hd
      try simp only[hd]at hK ⊢
      obtain⟨k47,k28⟩:=HS9.out _ (hG.2.1 (hno 5 kR));have s_c:=k47.three;have t_c:=k28.nine;clear k47 k28;go_simp
      exact hK _ _ rfl bR sG
    rintro l_9 x9 u9 hall hG ⟨-,-,-,-,e4,e5,e6,-⟩;clear hall hG;obtain⟨A',c',h39,hrow,hnb⟩:=e4;obtain⟨hob9,hT9⟩:=e5;have h8:=e6.trans h39;clear e6 h39
    have hSm:SmI w.heap.size ob X2b v5 d5 w u9 A' (n+1) c' (xs++[⟨r,a,o⟩]):=by
     have hav:=HAV.out;have hb25:Below w2.heap.size w2 W5:=by rw[HSBE.out];exact HB25.out
     have hT2:Touch (ob::ownB A) w2 u9:=((Touch.of_below hb25).mono sI).trans hT9 (fun y hy=> .inl hy);have hlv:=HO5.out.lt;have hrl:=ownsRow_lt hS.out.row
     have hz9:X2b∉ob::ownB A:=by
      intro hm
      rcases List.mem_cons.1 hm with h1|h1
      · exact HON.out.1 h1.symm
      exact(hS.out.off _ h1).2.1 rfl
     have hlow5:=hS.out.f.low.trans (HB5.out.mono hS.out.f.low.size);refine⟨⟨(HO5.out.touch hT2 (fun y hy hm=>?_)).mono hav.2.2.2.2.2.2,hob9,(hS.out.f.z.below HB5.out).touch hT9 hz9,fun y hy=>?_,HGD.out.1,hlow5.trans (hT9.below hlow5.size (fun y hy=>?_))⟩,?_,fun b hb=>?_⟩
     · have h1:=(hlv y hy).1
       rcases List.mem_cons.1 hm with h2|h2
       · omega
       have:=hav.1 y h2;omega
     · have h1:=(hlv y hy).1;omega
     · rcases List.mem_cons.1 hy with h2|h2
       · rw[h2];exact HON.out.2
       exact(hrl y h2).1
     · rw[List.map_append];exact hrow
     rcases hnb b hb with h1|h1
     · have h2:=hS.out.off b h1;refine⟨h2.1,h2.2.1,fun hm=>?_⟩
       have h3:=(hlv b hm).1;have h4:=hav.1 b h1;omega
     refine⟨oM,oM,fun hm=>?_⟩
     have h3:=(hlv b hm).2;have h4:=HSBE.out;omega
    have HSM:=Lib.hid hSm;clear hSm hrow hnb hob9 hT9;go_wp2_with fail
    generalize x9 8=z8 at h8 ⊢;subst h8
    go_roundg (d5.size+1)
    case measure=>omega
    exact⟨v5,d5,A',n+1,c',xs++[(⟨r,a,o⟩:Rewrite)],Nat.le_refl _,rfl,oM,HSM.out,HE2.out⟩
 have HS0:Aside (d.simplify=(Diag.nil,[],d.check)):=by
  show d.simplify=_
  unfold Diag.simplify;rw[if_neg hc]
 have hc1:(d.check != 0)=true:=by simpa using hc
 simp only[if_neg hc]at H51;generalize d.check=ck at *;clear hc;go_enter Tryz.func30,Tryz.ntmps30
 go_upto_region 1 with fail
 try rw[hX2b]
 rw[←HW.out];clear hX2b
 go_wp2_with (go_at_call 51;(with_reducible refine H51.mono ?_);rintro e w1 ⟨hb1,rfl⟩;clear H51
              have hn1:=HB3.out.below hb1;have HN1:=Lib.hid hn1;obtain⟨z0,z1,z2,z3,z4,z5,z6,z7,z8,zf⟩:=hn1.nine
              have HB2x:=Lib.hid (HBW.out.trans (hb1.mono HBW.out.size));clear hb1 hn1)
 have hq:=HN1.out.set9 (.slice none 0 0) (.slice none 0 0) (.slice none 0 0) (.slice none 0 0) (.int .i64 0) (.int .i64 0) (.int .i64 0) (.int .i64 0) (.int .i64 0);refine bodyPost_ret (v:= .tuple #[.agg #[.slice none 0 0, .slice none 0 0, .slice none 0 0, .slice none 0 0, .int .i64 0, .int .i64 0, .int .i64 0, .int .i64 0, .int .i64 0], .slice none 0 0,ck]) (by simp[results,Tryz.results30,go_sem,hq.nine]) rfl ?_
 rw[HS0.out];exact⟨nilDV,none,0,0,rfl,OwnD.nilD _ _,⟨rfl, .inl ⟨rfl,rfl⟩⟩,HB2x.out.trans ((touch_set9 _ _ _ _ _ _ _ _ _ _ _).below HB2x.out.size (fun x hx=>by have:=HSZ.out;simp at hx;omega))⟩
end
section
open Go.RowKit Go.Shelf
theorem end48 (w:World):
  Calls Tryz.prog 48 #[] w fun e w'=>e= .returned (.agg #[.int .i64 0, .int .i64 0])∧Below w.heap.size w w':=by
 go_enter Tryz.func48,Tryz.ntmps48
 go_wp2
 refine bodyPost_ret (v:= .agg #[.int .i64 0, .int .i64 0]) (by simp[results,Tryz.results48,go_sem]) rfl ⟨rfl,?_⟩
 exact bR.alloc (Nat.le_refl _) _
theorem z49 (q:Int) (w:World):
  Calls Tryz.prog 49 #[q] w fun e w'=>e= .returned (.agg #[.int .i64 1,q])∧Below w.heap.size w w':=by
 go_enter Tryz.func49,Tryz.ntmps49
 go_wp2
 refine bodyPost_ret (v:= .agg #[.int .i64 1,q]) (by simp[results,Tryz.results49,go_sem]) rfl ⟨rfl,?_⟩
 exact bR.alloc (Nat.le_refl _) _
theorem x50 (q:Int) (w:World):
  Calls Tryz.prog 50 #[q] w fun e w'=>e= .returned (.agg #[.int .i64 2,q])∧Below w.heap.size w w':=by
 go_enter Tryz.func50,Tryz.ntmps50
 go_wp2
 refine bodyPost_ret (v:= .agg #[.int .i64 2,q]) (by simp[results,Tryz.results50,go_sem]) rfl ⟨rfl,?_⟩
 exact bR.alloc (Nat.le_refl _) _
theorem one46 (n:Int) (A:Option Addr) (m c:Nat) (w:World):
  Calls Tryz.prog 46 #[n, .slice A m c] w fun e w'=>e= .returned (.agg #[n, .int .i64 0, .slice A m c])∧Below w.heap.size w w':=by
 go_enter Tryz.func46,Tryz.ntmps46
 go_wp2
 refine bodyPost_ret (v:= .agg #[n, .int .i64 0, .slice A m c]) (by simp[results,Tryz.results46,go_sem]) rfl ⟨rfl,?_⟩
 exact bR.alloc (Nat.le_refl _) _
theorem on47 (k:Int) (A:Option Addr) (m c:Nat) (w:World):
  Calls Tryz.prog 47 #[k, .slice A m c] w fun e w'=>e= .returned (.agg #[k, .slice A m c, .int .i64 0, .int .i64 0])∧Below w.heap.size w w':=by
 go_enter Tryz.func47,Tryz.ntmps47
 go_wp2
 refine bodyPost_ret (v:= .agg #[k, .slice A m c, .int .i64 0, .int .i64 0]) (by simp[results,Tryz.results47,go_sem]) rfl ⟨rfl,?_⟩
 exact bR.alloc (Nat.le_refl _) _
def greatB (a b c d:Nat):Bool:=decide (45<a)||decide (110<b)||decide (45<c)||decide (45<d)
theorem xe54_0 {p:Prop} (h:p:=by
 have e:greatB v.n1 v.n2 v.n3 v.n4=true:=by simp[greatB];omega
 rw[e];clear e;go_enter Tryz.func10,Tryz.ntmps10
 go_wp2
 refine bodyPost_ret (v:= .bool true) (by simp[results,Tryz.results10,go_sem]) rfl ⟨rfl,HB.out⟩):p:=h
theorem great10 (v:DV) (x0 x1 x2 x3 x4:Int) (w:World):
  Calls Tryz.prog 10 #[.agg #[.slice v.A1 v.n1 v.c1, .slice v.A2 v.n2 v.c2, .slice v.A3 v.n3 v.c3, .slice v.A4 v.n4 v.c4,x0,x1,x2,x3,x4]] w fun e w'=>e= .returned (.bool (greatB v.n1 v.n2 v.n3 v.n4))∧Below w.heap.size w w':=by
 have hb:Below w.heap.size w (w.alloc (.cells #[.slice v.A1 v.n1 v.c1, .slice v.A2 v.n2 v.c2, .slice v.A3 v.n3 v.c3, .slice v.A4 v.n4 v.c4,x0,x1,x2,x3,x4] 28)):=bR.alloc (Nat.le_refl _) _;have HB:=Lib.hid hb;clear hb
 by_cases h1:(45:Int)<v.n1
 · exact xe54_0
 by_cases h2:(110:Int)<v.n2
 · exact xe54_0
 by_cases h3:(45:Int)<v.n3
 · exact xe54_0
 by_cases h4:(45:Int)<v.n4
 · exact xe54_0
 have e:greatB v.n1 v.n2 v.n3 v.n4=false:=by simp[greatB];omega
 rw[e];clear e;go_enter Tryz.func10,Tryz.ntmps10
 go_wp2
 refine bodyPost_ret (v:= .bool false) (by simp[results,Tryz.results10,go_sem]) rfl ⟨rfl,HB.out⟩
end
section
open Go.RowKit Go.Shelf
variable {α:Type} {enc:α→List Value} {t:TypeId} {N:Nat} {b:Nat} {k:Nat} {w:World}
theorem Rd.ofBlk {xs:List α} (h:Blk w b (xs.flatMap enc) t) (he:∀x,(enc x).length=k) (hn:xs.length≤1000):Rd k enc w (some ⟨b,0,none⟩) xs.length xs:=by
 refine⟨rfl,oM,fun _=>⟨b,0,rfl,h.lt,fun i x hx j u hu=>?_⟩⟩
 rw[Nat.zero_add];exact h.cell _ u (flat_at2 he hx hu)
def dgZ:Diag:=⟨[⟨0,0⟩,⟨1,4⟩,⟨0,0⟩],[⟨0,1,false⟩,⟨1,2,false⟩],[0],[2],⟨1,0,0,0,0⟩⟩
def dgCX:Diag:=⟨[⟨0,0⟩,⟨0,0⟩,⟨1,0⟩,⟨2,0⟩,⟨0,0⟩,⟨0,0⟩],[⟨0,2,false⟩,⟨1,3,false⟩,⟨2,3,false⟩,⟨2,4,false⟩,⟨3,5,false⟩],[0,1],[4,5],⟨0,1,0,-1,0⟩⟩
theorem good1_3:Gat.good 1 ⟨3,[0],0,0⟩:=⟨by decide,by decide,rfl,rfl,by decide,by decide,by decide⟩
theorem xe70_0 {p:Prop} (h:p:=by
 refine⟨Rd.ofBlk (by simpa [gtC] using hg) (fun _=>rfl) sI,?_,?_⟩
 · intro x hx;simp only[List.mem_cons,List.not_mem_nil,or_false]at hx;subst hx;exact Rd.ofBlk (by simpa [inC] using hq0) (fun _=>rfl) sI
 intro x hx;simp only[List.mem_cons,List.not_mem_nil,or_false]at hx;subst hx
 exact Nat.le_refl _):p:=h
theorem ofZ (V:World) (g q0:Nat) (hg:Blk V g [.int .i64 3, .slice (some ⟨q0,0,none⟩) 1 1, .int .i64 0, .int .i64 0] 70) (hq0:Blk V q0 [.int .i64 0] 3) (hG:Glob N V) (hP:Phs N V) (hN:N≤V.heap.size):
  Calls Tryz.prog 19 #[.agg #[.int .i64 1, .int .i64 0, .slice (some ⟨g,0,none⟩) 1 1]] V fun e w'=>∃v,e= .returned (.tuple #[diaV v dgZ.sc, .int .i64 0])∧OwnD V.heap.size w' v dgZ∧Below V.heap.size V w':=by
 have hrd:CRd V (some ⟨g,0,none⟩) 1 [⟨some ⟨q0,0,none⟩,1,1,⟨3,[0],0,0⟩⟩]:=by
  exact xe70_0
 have h:=of19 1 0 (some ⟨g,0,none⟩) 1 1 [⟨some ⟨q0,0,none⟩,1,1,⟨3,[0],0,0⟩⟩] V hrd oM oM oM oM oM (by
   intro x hx;simp only[List.mem_cons,List.not_mem_nil,or_false]at hx;subst hx
   exact good1_3) hG hP hN
 refine h.mono ?_
 rintro e w' ⟨v,rfl,ho,hb⟩
 have hd:drawG 1 ([⟨some ⟨q0,0,none⟩,1,1,⟨3,[0],0,0⟩⟩].map (fun x:XG=>x.g))=(dgZ,0):=by
  show drawG 1 [⟨3,[0],0,0⟩]=_
  decide +kernel
 rw[hd]at ho;exact⟨v,by rw[hd],ho.out,hb⟩
theorem good2_9:Gat.good 2 ⟨9,[0,1],0,0⟩:=⟨by decide,by decide,rfl,rfl,by decide,by decide,by decide⟩
theorem ofCX (V:World) (g q0:Nat) (hg:Blk V g [.int .i64 9, .slice (some ⟨q0,0,none⟩) 2 2, .int .i64 0, .int .i64 0] 70) (hq0:Blk V q0 [.int .i64 0, .int .i64 1] 3) (hG:Glob N V) (hP:Phs N V) (hN:N≤V.heap.size):
  Calls Tryz.prog 19 #[.agg #[.int .i64 2, .int .i64 0, .slice (some ⟨g,0,none⟩) 1 1]] V fun e w'=>∃v,e= .returned (.tuple #[diaV v dgCX.sc, .int .i64 0])∧OwnD V.heap.size w' v dgCX∧Below V.heap.size V w':=by
 have hrd:CRd V (some ⟨g,0,none⟩) 1 [⟨some ⟨q0,0,none⟩,2,2,⟨9,[0,1],0,0⟩⟩]:=by
  exact xe70_0
 have h:=of19 2 0 (some ⟨g,0,none⟩) 1 1 [⟨some ⟨q0,0,none⟩,2,2,⟨9,[0,1],0,0⟩⟩] V hrd oM oM oM oM oM (by
   intro x hx;simp only[List.mem_cons,List.not_mem_nil,or_false]at hx;subst hx
   exact good2_9) hG hP hN
 refine h.mono ?_
 rintro e w' ⟨v,rfl,ho,hb⟩
 have hd:drawG 2 ([⟨some ⟨q0,0,none⟩,2,2,⟨9,[0,1],0,0⟩⟩].map (fun x:XG=>x.g))=(dgCX,0):=by
  show drawG 2 [⟨9,[0,1],0,0⟩]=_
  decide +kernel
 rw[hd]at ho;exact⟨v,by rw[hd],ho.out,hb⟩
theorem ofZZ (V:World) (g q0 q1:Nat) (hg:Blk V g [.int .i64 3, .slice (some ⟨q0,0,none⟩) 1 1, .int .i64 0, .int .i64 0, .int .i64 3, .slice (some ⟨q1,0,none⟩) 1 1, .int .i64 0, .int .i64 0] 70) (hq0:Blk V q0 [.int .i64 0] 3) (hq1:Blk V q1 [.int .i64 0] 3) (hG:Glob N V) (hP:Phs N V) (hN:N≤V.heap.size):
  Calls Tryz.prog 19 #[.agg #[.int .i64 1, .int .i64 0, .slice (some ⟨g,0,none⟩) 2 2]] V fun e w'=>∃v,e= .returned (.tuple #[diaV v dgZZ.sc, .int .i64 0])∧OwnD V.heap.size w' v dgZZ∧Below V.heap.size V w':=by
 have hrd:CRd V (some ⟨g,0,none⟩) 2 [⟨some ⟨q0,0,none⟩,1,1,⟨3,[0],0,0⟩⟩,⟨some ⟨q1,0,none⟩,1,1,⟨3,[0],0,0⟩⟩]:=by
  refine⟨Rd.ofBlk (by simpa [gtC] using hg) (fun _=>rfl) sI,?_,?_⟩
  · intro x hx;simp only[List.mem_cons,List.not_mem_nil,or_false]at hx
    rcases hx with rfl|rfl
    · exact Rd.ofBlk (by simpa [inC] using hq0) (fun _=>rfl) sI
    exact Rd.ofBlk (by simpa [inC] using hq1) (fun _=>rfl) sI
  intro x hx;simp only[List.mem_cons,List.not_mem_nil,or_false]at hx
  rcases hx with rfl|rfl<;>exact Nat.le_refl _
 have h:=of19 1 0 (some ⟨g,0,none⟩) 2 2 [⟨some ⟨q0,0,none⟩,1,1,⟨3,[0],0,0⟩⟩,⟨some ⟨q1,0,none⟩,1,1,⟨3,[0],0,0⟩⟩] V hrd oM oM oM oM oM (by
   intro x hx;simp only[List.mem_cons,List.not_mem_nil,or_false]at hx
   rcases hx with rfl|rfl<;>exact good1_3) hG hP hN
 refine h.mono ?_
 rintro e w' ⟨v,rfl,ho,hb⟩
 have hd:drawG 1 ([⟨some ⟨q0,0,none⟩,1,1,⟨3,[0],0,0⟩⟩,⟨some ⟨q1,0,none⟩,1,1,⟨3,[0],0,0⟩⟩].map (fun x:XG=>x.g))=(dgZZ,0):=by
  show drawG 1 [⟨3,[0],0,0⟩,⟨3,[0],0,0⟩]=_
  decide +kernel
 rw[hd]at ho;exact⟨v,by rw[hd],ho.out,hb⟩
theorem good1_4:Gat.good 1 ⟨4,[0],0,0⟩:=⟨by decide,by decide,rfl,rfl,by decide,by decide,by decide⟩
theorem ofH (V:World) (g q0:Nat) (hg:Blk V g [.int .i64 4, .slice (some ⟨q0,0,none⟩) 1 1, .int .i64 0, .int .i64 0] 70) (hq0:Blk V q0 [.int .i64 0] 3) (hG:Glob N V) (hP:Phs N V) (hN:N≤V.heap.size):
  Calls Tryz.prog 19 #[.agg #[.int .i64 1, .int .i64 0, .slice (some ⟨g,0,none⟩) 1 1]] V fun e w'=>∃v,e= .returned (.tuple #[diaV v dgH.sc, .int .i64 0])∧OwnD V.heap.size w' v dgH∧Below V.heap.size V w':=by
 have hrd:CRd V (some ⟨g,0,none⟩) 1 [⟨some ⟨q0,0,none⟩,1,1,⟨4,[0],0,0⟩⟩]:=by
  exact xe70_0
 have h:=of19 1 0 (some ⟨g,0,none⟩) 1 1 [⟨some ⟨q0,0,none⟩,1,1,⟨4,[0],0,0⟩⟩] V hrd oM oM oM oM oM (by
   intro x hx;simp only[List.mem_cons,List.not_mem_nil,or_false]at hx;subst hx
   exact good1_4) hG hP hN
 refine h.mono ?_
 rintro e w' ⟨v,rfl,ho,hb⟩
 have hd:drawG 1 ([⟨some ⟨q0,0,none⟩,1,1,⟨4,[0],0,0⟩⟩].map (fun x:XG=>x.g))=(dgH,0):=by
  show drawG 1 [⟨4,[0],0,0⟩]=_
  decide +kernel
 rw[hd]at ho;exact⟨v,by rw[hd],ho.out,hb⟩
end
section
open Go.RowKit Go.Shelf
variable {N:Nat}
def dgS:Diag:=⟨[⟨0,0⟩,⟨0,0⟩],[⟨0,1,false⟩],[0],[1],⟨1,0,0,0,0⟩⟩
def dgD:Diag:=⟨[⟨1,2⟩],[],[],[],⟨1,0,0,0,0⟩⟩
theorem simpZZ (V:World) (v:DV) (hd:DRd V v dgZZ) (hG:Glob N V) (hN:N≤V.heap.size):
  Calls Tryz.prog 30 #[.agg (a9 v dgZZ.sc)] V fun e w'=>∃(v':DV) (A:Option Addr) (n c:Nat),e= .returned (.tuple #[.agg #[.slice v'.A1 v'.n1 v'.c1, .slice v'.A2 v'.n2 v'.c2, .slice v'.A3 v'.n3 v'.c3, .slice v'.A4 v'.n4 v'.c4, .int .i64 1, .int .i64 0, .int .i64 0, .int .i64 0, .int .i64 0], .slice A n c, .int .i64 0])∧DRd w' v' dgS∧Rd 3 rwC w' A n [⟨1,1,0⟩,⟨4,1,0⟩]∧Below V.heap.size V w':=by
 have h:=simplify30 v dgZZ V hd (by have h3:=hd.ins.len;have h4:=hd.outs.len;simp[dgZZ]at h3 h4;omega) hG hN;refine h.mono ?_
 rintro e w' ⟨v',A,n,c,rfl,ho,hr,hb⟩;rw[exZZ_simp]at ho hr;refine⟨v',A,n,c,?_,ho.rd,Rd.owned dE (fun _=>rfl) hr,hb⟩
 rw[exZZ_simp]
theorem doD (V:World) (v:DV) (hd:DRd V v dgD) (hG:Glob N V) (hN:N≤V.heap.size):
  Calls Tryz.prog 22 #[.agg #[.slice v.A1 v.n1 v.c1, .slice v.A2 v.n2 v.c2, .slice v.A3 v.n3 v.c3, .slice v.A4 v.n4 v.c4, .int .i64 1, .int .i64 0, .int .i64 0, .int .i64 0, .int .i64 0], .agg #[.int .i64 6, .int .i64 0, .int .i64 0]] V fun e w'=>∃v':DV,e= .returned (.tuple #[.agg #[.slice v'.A1 v'.n1 v'.c1, .slice v'.A2 v'.n2 v'.c2, .slice v'.A3 v'.n3 v'.c3, .slice v'.A4 v'.n4 v'.c4, .int .i64 1, .int .i64 0, .int .i64 1, .int .i64 0, .int .i64 0], .int .i64 0])∧v'.n1=0∧Below V.heap.size V w':=by
 have h:=do22 v dgD V hd (by have h3:=hd.ins.len;have h4:=hd.outs.len;simp[dgD]at h3 h4;omega) hG hN 6 0 0;refine h.mono ?_
 rintro e w' ⟨v',rfl,ho,hb⟩;have hx:dgD.do_ ⟨6,0,0⟩=(⟨[],[],[],[],⟨1,0,1,0,0⟩⟩,0):=exDrop;rw[hx]at ho;refine⟨v',?_,ho.out.n1.symm,hb⟩
 rw[hx]
theorem meanH (V:World) (v:DV) (hd:DRd V v dgH):
  Calls Tryz.prog 13 #[.agg (a9 v dgH.sc)] V fun e w'=>∃A n c hs,e= .returned (.tuple #[.slice A n c, .int .i64 0])∧RowsRd w' A n hs [[⟨1,0,0,0,1⟩,⟨1,0,0,0,1⟩],[⟨1,0,0,0,1⟩,⟨-1,0,0,0,1⟩]]∧Below V.heap.size V w':=by
 have h:=meaning13 v dgH V hd (by have h3:=hd.ins.len;have h4:=hd.outs.len;simp[dgH]at h3 h4;omega);refine h.mono ?_
 rintro e w' ⟨A,n,c,hs,rfl,hr,hb⟩;rw[exMean]at hr;refine⟨A,n,c,hs,?_,hr.out,hb⟩
 rw[exMean]
theorem plugH (V:World) (v:DV) (hd:DRd V v dgH) (hG:Glob N V) (hN:N≤V.heap.size):
  Calls Tryz.prog 25 #[.agg (a9 v dgH.sc), .int .i64 1, .int .i64 1] V fun e w'=>∃v',e= .returned (.tuple #[diaV v' dgP.sc, .int .i64 0])∧DRd w' v' dgP∧Below V.heap.size V w':=by
 have h:=plug25 v dgH V hd (by have h3:=hd.ins.len;have h4:=hd.outs.len;simp[dgH]at h3 h4;omega) hG hN 1 1;refine h.mono ?_
 rintro e w' ⟨v',rfl,ho,hb⟩;refine⟨v',?_,ho.out.rd,hb⟩
 rw[exPlug];rfl
theorem simpP (V:World) (v:DV) (hd:DRd V v dgP) (hG:Glob N V) (hN:N≤V.heap.size):
  Calls Tryz.prog 30 #[diaV v dgP.sc] V fun e w'=>∃(v':DV) (A:Option Addr) (n c:Nat),e= .returned (.tuple #[.agg #[.slice v'.A1 v'.n1 v'.c1, .slice v'.A2 v'.n2 v'.c2, .slice v'.A3 v'.n3 v'.c3, .slice v'.A4 v'.n4 v'.c4, .int .i64 (-1), .int .i64 0, .int .i64 0, .int .i64 0, .int .i64 1], .slice A n c, .int .i64 0])∧v'.n1=0∧Below V.heap.size V w':=by
 have hio:dgP.ins=[]∧dgP.outs=[]:=by decide +kernel
 have h:=simplify30 v dgP V hd (by have h3:=hd.ins.len;have h4:=hd.outs.len;rw[hio.1]at h3;rw[hio.2]at h4;simp at h3 h4;omega) hG hN;refine h.mono ?_
 rintro e w' ⟨v',A,n,c,rfl,ho,hr,hb⟩;obtain⟨h1,h2,h3⟩:=exPlug_simp;refine⟨v',A,n,c,?_,?_,hb⟩
 · show Ending.returned (.tuple #[diaV v' dgP.simplify.1.sc, .slice A n c,dgP.simplify.2.2])=_
   rw[h2,h3]
 have h4:=ho.n1;rw[h1]at h4;exact h4.symm
end
end Go.Proofs.YtcoackmdmohnhaaGreatDoor
