/- Plug of the reference on plain diagrams: the same as the program's. -/
import Derived.Test.YtcoackmdmohnhaaGreatDoorV20
set_option linter.unusedVariables false
set_option linter.unusedSimpArgs false
namespace Go.Proofs.YtcoackmdmohnhaaGreatDoor
open Go.RowKit Go.Shelf
theorem Num.powP_snd (y : Num) : ∀ (n : Nat) (s : Num), (Num.powP n y s).2 = 0 ∨ (Num.powP n y s).2 = 8
 | 0, s => .inl rfl
 | n + 1, s => by
  simp only [Num.powP]
  split
  · exact Num.powP_snd y n _
  exact .inr rfl
theorem Num.power_snd (s : Num) (n : Int) : (s.power n).2 = 0 ∨ (s.power n).2 = 8 := Num.powP_snd _ _ _
def plugO (m : Int) : Nat → List Int → List Spider → List Spider
 | _, [], sp => sp
 | i, n :: l, sp => plugO m (i + 1) l (sp.set n.toNat ⟨2, 4 * (m / 2 ^ i % 2)⟩)
theorem plugO_len (m : Int) : ∀ (l : List Int) (i : Nat) (sp : List Spider), (plugO m i l sp).length = sp.length
 | [], i, sp => rfl
 | n :: l, i, sp => by simp [plugO, plugO_len m l]
theorem plugO_take (m : Int) : ∀ (l : List Int) (i k : Nat) (n : Int) (sp : List Spider), l[k]? = some n → plugO m i (l.take (k + 1)) sp = (plugO m i (l.take k) sp).set n.toNat ⟨2, 4 * (m / 2 ^ (i + k) % 2)⟩
 | [], i, k, n, sp, h => by simp at h
 | x :: l, i, 0, n, sp, h => by
  simp at h
  subst h; simp [plugO]
 | x :: l, i, k + 1, n, sp, h => by
  have ih := plugO_take m l (i + 1) k n (sp.set x.toNat ⟨2, 4 * (m / 2 ^ i % 2)⟩) sH; rw [show i + 1 + k = i + (k + 1) by omega] at ih; simp only [List.take_succ_cons, plugO] at ih ⊢; exact ih
theorem plugL_out (n3 : Nat) (m q : Int) : ∀ (B : List Int) (i : Nat) (sp : List Spider), n3 ≤ i → plugL n3 m q i B sp = plugO q (i - n3) B sp
 | [], i, sp, h => rfl
 | x :: B, i, sp, h => by
  simp only [plugL, plugO, plugB]; rw [plugL_out n3 m q B (i + 1) _ oM, if_neg oM, show i + 1 - n3 = i - n3 + 1 by omega]
theorem plugL_in (n3 : Nat) (m q : Int) : ∀ (A : List Int) (B : List Int) (i : Nat) (sp : List Spider), i + A.length = n3 → plugL n3 m q i (A ++ B) sp = plugO q 0 B (plugO m i A sp)
 | [], B, i, sp, h => by
  simp only [List.length_nil, Nat.add_zero] at h; subst h; simp only [List.nil_append, plugO]; rw [plugL_out i m q B i sp (Nat.le_refl _), Nat.sub_self]
 | x :: A, B, i, sp, h => by
  simp only [List.length_cons] at h; simp only [List.cons_append, plugL, plugO, plugB]; rw [if_pos oM, plugL_in n3 m q A B (i + 1) _ oM]
def Diag.plugR (d : Diag) (m q : Int) : Diag × Int :=
 if d.check ≠ 0 then (Diag.nil, d.check)
 else if m < 0 ∨ 2 ^ d.ins.length ≤ m ∨ q < 0 ∨ 2 ^ d.outs.length ≤ q then (Diag.nil, 3)
 else
  let r := d.sc.scaledR (-(d.ins.length : Int) - d.outs.length)
  if r.2 ≠ 0 then (Diag.nil, r.2) else ({ sp := plugO q 0 d.outs (plugO m 0 d.ins d.sp), ln := d.ln, ins := [], outs := [], sc := r.1 }, 0)
theorem plug_eq (d : Diag) (m q : Int) : d.plug m q = d.plugR m q := by
 unfold Diag.plug Diag.plugR
 by_cases hc : d.check = 0
 · rw [if_neg (show ¬ d.check ≠ 0 by simp [hc]), if_neg (show ¬ d.check ≠ 0 by simp [hc])]
   by_cases hr : m < 0 ∨ 2 ^ d.ins.length ≤ m ∨ q < 0 ∨ 2 ^ d.outs.length ≤ q
   · rw [if_pos hr, if_pos hr]
   rw [if_neg hr, if_neg hr]; obtain ⟨_, _, _, _, _, hsc⟩ := check_parts hc; have hk := (Num.check_zero.1 hsc).1; have h1 := power_right (Num.low_form d.sc hk) (Num.check_form hsc) (-(d.ends.length : Int)); have h2 := Num.scaledR_eq d.sc hk (-(d.ins.length : Int) - d.outs.length); have e : (-(d.ends.length : Int)) = -(d.ins.length : Int) - d.outs.length := by simp [Diag.ends]; omega
   have h8 := Num.power_snd d.sc.form (-(d.ends.length : Int)); rw [e] at h1 h8 ⊢; rw [← h2] at h1; dsimp only; rw [← h1]; generalize d.sc.form.power (-(d.ins.length : Int) - d.outs.length) = p at *; have hp : plugL d.ins.length m q 0 d.ends d.sp = plugO q 0 d.outs (plugO m 0 d.ins d.sp) := plugL_in d.ins.length m q d.ins d.outs 0 d.sp oM; unfold fin8; rw [hp]
   rcases h8 with h8 | h8 <;> simp [h8]
 rw [if_pos hc, if_pos hc]
end Go.Proofs.YtcoackmdmohnhaaGreatDoor
