/- spoondriftlaw18.ZxPlugs returns true for every input, and what was passed in reads as before: the row and its tied card. Conditions: none beyond the row's own, that the listed variables read as their initialisers lay them, which the card ties to the program's text. -/
import Derived.Test.YtcoackmdmohnhaaGreatDoorV33
import Derived.Test.YtcoackmdmohnhaaGreatDoorCards
import Derived.Test.YtcoackmdmohnhaaGreatDoorTie
set_option linter.unusedVariables false
set_option linter.unusedSimpArgs false
set_option maxRecDepth 100000
namespace Go.Proofs.YtcoackmdmohnhaaGreatDoor
open Go.ChangeShapes Go.WideShapes Go.ChangeAt Go.RowKit Go.WideElems Go.Maps Go.Deep
theorem door_met (os : Os) (args : Array Value) : laidMetH Tryz.prog Rows.zxPlugsRow.laid ((World.doorLaid Tryz.prog 63 os).forCall (fun _ _ => 0) ⟨#[], args, []⟩).memory :=
 laidMetH_of_parts3 (fuel := 8) (laidMet_of_run' 8 kR kR) kR kR
abbrev nilA : Value := .agg #[.slice none 0 0, .slice none 0 0, .slice none 0 0, .slice none 0 0, .int .i64 0, .int .i64 0, .int .i64 0, .int .i64 0, .int .i64 0]
theorem plugsLifted (os : Os) (started : os.Started) (H : Type) (enc : TypeId × Value → H) :
  ReturnsInHanded {} Tryz.checked os 6 .any (fun w args => (Rows.zxPlugsSpec.pre enc Tryz.prog Tryz.f6 [] false w args ∧ laidMetH Tryz.prog Rows.zxPlugsRow.laid w) ∧ sizedMet enc Tryz.prog Tryz.f6 (OpenSpec.ofChange Rows.zxPlugsSpec) false w args)
    (Rows.zxPlugsSpec.post enc Tryz.prog Tryz.f6 false true false false) := by
 refine returnsInHanded_of_change_and (C := Tryz.checked) (X := fun w _ => laidMetH Tryz.prog Rows.zxPlugsRow.laid w) (fun _ _ _ hh h => h.of_heap hh) ownK started kR Tryz.func6
  (ChangeSpec.witness_shaped (enc := enc) (C := Tryz.checked) (os := os) (X := fun w _ => laidMetH Tryz.prog Rows.zxPlugsRow.laid w) false (World.doorLaid Tryz.prog 63 os) #[nilA, .int .i64 0, .int .i64 0] 8 rfl (World.shaped_of_RefB kR kR) kR kR kR (door_met os _)) ?_
 intro W base args ds gs before hval0 hW _ _ hL _; have hval : ∀ (j : Nat) t v, Tryz.f6.params[j]? = some t → args[j]? = some v → Value.okWide Tryz.prog W .any base t v := hval0; have hW' := hW; obtain ⟨p, q, hA0, hV, rfl, hfz, hnd⟩ := hW; have hA : DataW.TrodAll enc Tryz.prog W 0 (fun _ => true) true Tryz.f6.params.toList args.toList ds p := hA0; rw [Tryz.params6] at hA hval; obtain ⟨v0, v1, v2, d0, d1, d2, p0, p1, p2, rfl, rfl, rfl, r0, r1, r2⟩ := trodAll_three hA; obtain ⟨rfl, rfl⟩ := trodVars_none hV; obtain ⟨m, rfl, rfl, rfl, wm⟩ := open_int Tryz.underlying3 (hval 1 3 v1 rfl rfl) r1; obtain ⟨k, rfl, rfl, rfl, wk⟩ := open_int Tryz.underlying3 (hval 2 3 v2 rfl rfl) r2; obtain ⟨v, d, rfl, hd⟩ := dia_open (hval 0 28 v0 rfl rfl) r0; obtain ⟨hG, hP⟩ := of_laid hL; have hltv : ∀ x ∈ p0, x.block < W.heap.size := fun x hx => hW'.lt x (by simp [hx]); clear hA0 hA hval0
 refine (law6 v d W hd hG hP m k).mono fun e W' ⟨he, hB⟩ => ?_
 subst he; refine ⟨_, rfl, _, _, _, [], p0 ++ ([] ++ []), [], hW', ?_, ?_, ?_, hB.frame _, fun h => by cases h⟩
 · exact trodAll_mk1 (shut_bool Tryz.underlying4 true)
 · exact trodAll_cons_mk (Below.trod laidOutT kR (of_decide_eq_true kR) r0 hB hltv) (trodAll_cons_mk (shut_int Tryz.underlying3 wm) (trodAll_mk1 (shut_int Tryz.underlying3 wk)))
 exact rfl
theorem plugsSaid : Rows.ZxPlugsSaid :=
 OpenClaim.holds_of_wide 6 Tryz.f6 rfl rfl rfl rfl rfl rfl rfl ⟨rfl, rfl, rfl, rfl, rfl⟩ rfl rfl rfl rfl rfl kR Tryz.func6 kR
  (of_decide_eq_true kR) (by unfold Func.isWrapper; first | (rw [if_pos (by decide +kernel)]; kernel_rfl) | (rw [if_neg (by decide +kernel)]; exact ⟨rfl, rfl⟩))
  (fun os started H enc _ => plugsLifted os started H enc)
theorem plugsPlain (f : FuncId) (fn : Func) (hf : Tryz.pinned.checked.prog.funcNamed "spoondrift/spoondriftlaw18.ZxPlugs" = some f) (hfn : Tryz.pinned.checked.prog.funcs[f]? = some fn) :
  false = Tryz.pinned.checked.prog.looks [] ∧ ∀ (j : Nat) t, fn.params[j]? = some t → Tryz.pinned.checked.prog.wantsStandIn t = false := by
 obtain rfl : f = 6 := Option.some.inj ((show Tryz.prog.funcNamed "spoondrift/spoondriftlaw18.ZxPlugs" = some 6 by kernel_rfl).symm.trans hf) |>.symm; obtain rfl : fn = Tryz.f6 := (Option.some.inj (Tryz.func6.symm.trans hfn)).symm; refine ⟨by kernel_rfl, fun j t ht => ?_⟩
 rw [Tryz.params6] at ht; have hm : t ∈ [28, 3, 3] := by simpa using Array.mem_of_getElem? ht
 have hall : ([28, 3, 3].all fun u => !Tryz.prog.wantsStandIn u) = true := kR
 exact (show Tryz.prog.wantsStandIn t = false by simpa using List.all_eq_true.1 hall t hm)
theorem plugsCard : Rows.ZxPlugsCardSaid :=
 Claim7.holds_tied_plain_at .later [] _ _ _ _ plugsSaid (fun _ h => by cases h) kR (fun _ h => by cases h) zxPlugs_row_tie rfl ⟨rfl, rfl⟩ kR rfl plugsPlain kR
#print axioms plugsCard
end Go.Proofs.YtcoackmdmohnhaaGreatDoor
