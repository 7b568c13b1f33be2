/- Contracts of functions, and plain lemmas; each theorem's conditions stand in its statement. -/
import Derived.Test.YtcoackmdmohnhaaGreatDoorV16
set_option linter.unusedVariables false
set_option linter.unusedSimpArgs false
namespace Go.Proofs.YtcoackmdmohnhaaGreatDoor
section
open Go.RowKit Go.Shelf
variable {i:Nat} {d:Diag}
theorem powP_check (y:Num):∀(n:Nat) (x:Num),x.check=0→(Num.powP n y x).2=0→(Num.powP n y x).1.check=0
 |0,x,h,_=>h
 | n+1,x,h,h2=>by
  unfold Num.powP at h2 ⊢
  split
  · rename_i hc
    rw[if_pos hc]at h2;exact powP_check y n _ hc h2
  rename_i hc
  rw[if_neg hc]at h2;cases h2
theorem scaleL_check:∀(l:List Num) (s:Num),s.check=0→(s.scaleL l).2=0→(s.scaleL l).1.check=0
 |[],s,h,_=>h
 | x::l,s,h,h2=>by
  unfold Num.scaleL at h2 ⊢
  split
  · rename_i hc
    rw[if_pos hc]at h2;exact scaleL_check l _ hc h2
  rename_i hc
  rw[if_neg hc]at h2;cases h2
theorem finP_check {s:Num} {l:List Num} {n:Int} (h:s.check=0) (h2:(s.finP l n).2=0):(s.finP l n).1.check=0:=by
 unfold Num.finP at h2 ⊢
 by_cases hc:(s.scaleL l).2=0
 · rw[if_pos hc]at h2 ⊢;exact powP_check _ _ _ (scaleL_check l s h hc) h2
 rw[if_neg hc]at h2;exact absurd h2 hc
theorem Diag.Inv.setSc (h:d.Inv) {s:Num} (hs:s.check=0):({d with sc:=s}:Diag).Inv:=
 ⟨⟨h.ok.n1,h.ok.n2,h.ok.n3,h.ok.n4,h.ok.sp,h.ok.ln,h.ok.ins,h.ok.outs,hs⟩,h.ie,h.oe⟩
theorem Diag.Inn.finish (h:d.Inn) {l:List Num} {n:Int} (h2:(Diag.finish (some (d,l,n))).2=0):(Diag.finish (some (d,l,n))).1.Inv:=by
 unfold Diag.finish at h2 ⊢;dsimp only at h2 ⊢
 by_cases hl:100<d.ln.length
 · rw[if_pos hl]at h2;cases h2
 rw[if_neg hl]at h2 ⊢
 by_cases hf:(d.sc.finP l n).2=0
 · rw[if_pos hf];exact(h.inv oM).setSc (finP_check h.rest.ok.sc hf)
 rw[if_neg hf]at h2;cases h2
theorem Diag.Inv.rule (h:d.Inv) {r:Int} {j:Nat} {x:Diag × List Num × Int} (hi:¬lined r=true→i<d.sp.length) (he:d.rule r i j=some x):x.1.Inn:=by
 obtain⟨d',l,n⟩:=x;unfold Diag.rule at he
 by_cases h1:r=1
 · rw[if_pos h1]at he;exact(h.fuses he).inn
 rw[if_neg h1]at he
 by_cases h2:r=2
 · rw[if_pos h2]at he;exact(h.turns he).inn
 rw[if_neg h2]at he
 by_cases h3:r=3
 · rw[if_pos h3]at he;exact(h.loops he).inn
 rw[if_neg h3]at he
 by_cases h4:r=4
 · rw[if_pos h4]at he;exact h.units (hi (by simp[lined,h4])) he
 rw[if_neg h4]at he
 by_cases h5:r=5
 · rw[if_pos h5]at he;exact(h.pairs he).inn
 rw[if_neg h5]at he
 by_cases h6:r=6
 · rw[if_pos h6]at he;exact(h.drops (hi (by simp[lined,h6])) he).inn
 rw[if_neg h6]at he
 by_cases h7:r=7
 · rw[if_pos h7]at he;exact h.comps (hi (by simp[lined,h7])) he
 rw[if_neg h7]at he;exact h.pivots he
theorem Diag.Inv.step (h:d.Inv) (hf:d.sc.form.check=0) {s:Rewrite} (h2:(d.step s).2=0):(d.step s).1.Inv:=by
 unfold Diag.step at h2 ⊢
 by_cases h1:s.rule<1∨8<s.rule
 · rw[if_pos h1]at h2;cases h2
 rw[if_neg h1]at h2 ⊢
 by_cases h3:s.at_<0∨((if lined s.rule then d.ln.length else d.sp.length):Int)≤s.at_∨(s.rule=5∧(s.other<0∨(d.ln.length:Int)≤s.other))∨(s.rule≠5∧s.other≠0)
 · rw[if_pos h3]at h2;cases h2
 rw[if_neg h3]at h2 ⊢
 cases hr:Diag.rule {d with sc:=d.sc.form} s.rule s.at_.toNat s.other.toNat with
 |none=>rw[hr]at h2;cases h2
 | some x=>
  rw[hr]at h2;refine Diag.Inn.finish (Diag.Inv.rule (h.setSc hf) (fun hl=>?_) hr) h2
  have h4:¬s.at_<0:=fun e=>h3 (.inl e);have h5:¬((if lined s.rule then d.ln.length else d.sp.length):Int)≤s.at_:=fun e=>h3 (.inr (.inl e));rw[if_neg hl]at h5;show s.at_.toNat<d.sp.length
  omega
theorem Diag.Inv.stepI (h:d.Inv) {s:Rewrite} (h2:(d.step s).2=0):(d.step s).1.Inv:=h.step (Num.check_form h.ok.sc) h2
end
section
open Go.RowKit Go.Shelf
theorem ef184:∀args w,(callFunc 184 args).run Tryz.prog w= .ok (.enter 184 args) w:=enters_of Tryz.func184 kR rfl
theorem ef185:∀args w,(callFunc 185 args).run Tryz.prog w= .ok (.enter 185 args) w:=enters_of Tryz.func185 kR rfl
theorem ef186:∀args w,(callFunc 186 args).run Tryz.prog w= .ok (.enter 186 args) w:=enters_of Tryz.func186 kR rfl
theorem ef187:∀args w,(callFunc 187 args).run Tryz.prog w= .ok (.enter 187 args) w:=enters_of Tryz.func187 kR rfl
theorem ef188:∀args w,(callFunc 188 args).run Tryz.prog w= .ok (.enter 188 args) w:=enters_of Tryz.func188 kR rfl
theorem ef189:∀args w,(callFunc 189 args).run Tryz.prog w= .ok (.enter 189 args) w:=enters_of Tryz.func189 kR rfl
theorem ef190:∀args w,(callFunc 190 args).run Tryz.prog w= .ok (.enter 190 args) w:=enters_of Tryz.func190 kR rfl
theorem ef191:∀args w,(callFunc 191 args).run Tryz.prog w= .ok (.enter 191 args) w:=enters_of Tryz.func191 kR rfl
def DoesR (r:Int) (F:Nat):Prop:=∀{t:TypeId} {tl:List Value} {B N p:Nat} {v:DV} {d:Diag} {w:World},WK t tl B w p v d→Glob N w→N≤B→d.Ok→∀(i:Nat) (o:Int),i<(if lined r then d.ln.length else d.sp.length)→(r=5→0≤o∧o<d.ln.length)→Calls Tryz.prog F #[pt p 0,i,o] w (RuleR t tl B p v w (d.rule r i o.toNat))
theorem ruleF (r:Int) (h1:1≤r) (h8:r≤8):∃F,rulesC[r.toNat*2]?=some (.bool (lined r))∧rulesC[r.toNat*2+1]?=some (.func (.func F) #[] #[])∧(∀args w,(callFunc F args).run Tryz.prog w= .ok (.enter F args) w)∧DoesR r F:=by
 have hcs:r=1∨r=2∨r=3∨r=4∨r=5∨r=6∨r=7∨r=8:=oM
 rcases hcs with rfl|rfl|rfl|rfl|rfl|rfl|rfl|rfl
 · exact⟨184,rfl,rfl,ef184,fun hk hg hn hd i o hi ho=>fuses184 hk hd i hi o⟩
 · exact⟨185,rfl,rfl,ef185,fun hk hg hn hd i o hi ho=>turns185 hk hd i hi o⟩
 · exact⟨186,rfl,rfl,ef186,fun hk hg hn hd i o hi ho=>loops186 hk hg hn hd i hi o⟩
 · exact⟨187,rfl,rfl,ef187,fun hk hg hn hd i o hi ho=>units187 hk hd i hi o⟩
 · refine⟨188,rfl,rfl,ef188,fun {t tl B N p v d w} hk hg hn hd i o hi ho=>?_⟩
   obtain⟨h0,h2⟩:=ho rfl;obtain⟨j,rfl⟩:=Int.eq_ofNat_of_zero_le h0;exact pairs188 hk hg hn hd i j hi oM
 · exact⟨189,rfl,rfl,ef189,fun hk hg hn hd i o hi ho=>drops189 hk hd i hi o⟩
 · exact⟨190,rfl,rfl,ef190,fun hk hg hn hd i o hi ho=>comps190 hk hg hn hd i hi o⟩
 exact⟨191,rfl,rfl,ef191,fun hk hg hn hd i o hi ho=>pivots191 hk hg hn hd i hi o⟩
theorem resD_finish {d':Diag} {x:Diag × List Num × Int} (hi:(Diag.finish (some x)).2=0→(Diag.finish (some x)).1.Inv) (h:(Diag.finish (some x)).2=0→d'=(Diag.finish (some x)).1):resD d' (Diag.finish (some x)).2=Diag.finish (some x):=by
 unfold resD
 by_cases h0:(Diag.finish (some x)).2=0
 · have h1:=(hi h0).ok;rw[if_neg (by simp[h0]),h h0,if_neg (by have:=h1.n1;have:=h1.n2;omega)];exact Prod.ext rfl h0.symm
 rw[if_pos h0];obtain⟨d9,l9,n9⟩:=x;unfold Diag.finish at h0 ⊢;dsimp only at h0 ⊢
 split
 · rfl
 rename_i h5
 rw[if_neg h5]at h0
 split
 · rename_i h6
   rw[if_pos h6]at h0;exact absurd rfl h0
 rfl
end
end Go.Proofs.YtcoackmdmohnhaaGreatDoor
