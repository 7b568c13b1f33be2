/-
  DERIVED. GIVEN WITH THE SEED: THE PROGRAM's TIES (one call each: nine closed facts by the kernel) AND EACH ROW's TIE, after the 31st guide's Derived/Test/Toyas{Tie, Card}.lean. No idea stands in it: it is a product of the set-up. Laid BY PROGRAM, IN A SANDBOX (cutbox-door.mjs). By AI agents, Wed Nov 11 2026. No macro, syntax, notation, axiom, sorry.
-/
import Derived.Test.YtcoackmdmohnhaaGreatDoorRows
import Derived.LaidByTextLater
import Derived.SevenTiedAt
import Derived.LaidSub
import Derived.LaidOnce
namespace Go.Proofs.YtcoackmdmohnhaaGreatDoor
open Go
set_option maxRecDepth 100000
theorem seatTie1 : Tryz.prog.laidByTextLater [("spoondrift/zx.order", Rows.laid_spoondrift_zx_order), ("spoondrift/zx.root", Rows.laid_spoondrift_zx_root), ("spoondrift/zx.rules", Rows.laid_spoondrift_zx_rules), ("spoondrift/zx.phases", Rows.laid_spoondrift_zx_phases)] [.data, .data, .funcs, .mapped] true :=
  Program.laidByTextLater_by_one 63 8 9 (by kernel_rfl) (by kernel_rfl) (by kernel_rfl) (by kernel_rfl) (by kernel_rfl) (by kernel_rfl) (fun _ _ => by kernel_rfl)
theorem noOwnUnsafe : Tryz.pinned.checked.prog.headLifts.contains "ownunsafe" = false := by kernel_rfl
theorem tie : Tryz.prog.laidByTextLater [("spoondrift/zx.order", Rows.laid_spoondrift_zx_order), ("spoondrift/zx.root", Rows.laid_spoondrift_zx_root), ("spoondrift/zx.rules", Rows.laid_spoondrift_zx_rules), ("spoondrift/zx.phases", Rows.laid_spoondrift_zx_phases)] [.data, .data, .funcs, .mapped] true :=
  Program.laidByTextLater.sub seatTie1 ["spoondrift/zx.order", "spoondrift/zx.root", "spoondrift/zx.rules", "spoondrift/zx.phases"] (by kernel_rfl) (by kernel_rfl)
theorem zxMeans_row_tie : Rows.zxMeansRow.laidByTextAt .later Tryz.pinned [.data, .data, .funcs, .mapped] true :=
  OpenClaim.laidByTextAt_later rfl rfl tie noOwnUnsafe
theorem zxDraws_row_tie : Rows.zxDrawsRow.laidByTextAt .later Tryz.pinned [.data, .data, .funcs, .mapped] true :=
  OpenClaim.laidByTextAt_later rfl rfl tie noOwnUnsafe
theorem zxDoes_row_tie : Rows.zxDoesRow.laidByTextAt .later Tryz.pinned [.data, .data, .funcs, .mapped] true :=
  OpenClaim.laidByTextAt_later rfl rfl tie noOwnUnsafe
theorem zxPlugs_row_tie : Rows.zxPlugsRow.laidByTextAt .later Tryz.pinned [.data, .data, .funcs, .mapped] true :=
  OpenClaim.laidByTextAt_later rfl rfl tie noOwnUnsafe
theorem zxFollows_row_tie : Rows.zxFollowsRow.laidByTextAt .later Tryz.pinned [.data, .data, .funcs, .mapped] true :=
  OpenClaim.laidByTextAt_later rfl rfl tie noOwnUnsafe
theorem zxChecks_row_tie : Rows.zxChecksRow.laidByTextAt .later Tryz.pinned [.data, .data, .funcs, .mapped] true :=
  OpenClaim.laidByTextAt_later rfl rfl tie noOwnUnsafe
theorem zxJoins_row_tie : Rows.zxJoinsRow.laidByTextAt .later Tryz.pinned [.data, .data, .funcs, .mapped] true :=
  OpenClaim.laidByTextAt_later rfl rfl tie noOwnUnsafe
theorem zxMeansUpto_row_tie : Rows.zxMeansUptoRow.laidByTextAt .later Tryz.pinned [.data, .data, .funcs, .mapped] true :=
  OpenClaim.laidByTextAt_later rfl rfl tie noOwnUnsafe
theorem zxDrawsUpto_row_tie : Rows.zxDrawsUptoRow.laidByTextAt .later Tryz.pinned [.data, .data, .funcs, .mapped] true :=
  OpenClaim.laidByTextAt_later rfl rfl tie noOwnUnsafe
theorem zxDoesUpto_row_tie : Rows.zxDoesUptoRow.laidByTextAt .later Tryz.pinned [.data, .data, .funcs, .mapped] true :=
  OpenClaim.laidByTextAt_later rfl rfl tie noOwnUnsafe
theorem zxPlugsUpto_row_tie : Rows.zxPlugsUptoRow.laidByTextAt .later Tryz.pinned [.data, .data, .funcs, .mapped] true :=
  OpenClaim.laidByTextAt_later rfl rfl tie noOwnUnsafe
theorem zxFollowsUpto_row_tie : Rows.zxFollowsUptoRow.laidByTextAt .later Tryz.pinned [.data, .data, .funcs, .mapped] true :=
  OpenClaim.laidByTextAt_later rfl rfl tie noOwnUnsafe
theorem zxChecksUpto_row_tie : Rows.zxChecksUptoRow.laidByTextAt .later Tryz.pinned [.data, .data, .funcs, .mapped] true :=
  OpenClaim.laidByTextAt_later rfl rfl tie noOwnUnsafe
theorem zxJoinsUpto_row_tie : Rows.zxJoinsUptoRow.laidByTextAt .later Tryz.pinned [.data, .data, .funcs, .mapped] true :=
  OpenClaim.laidByTextAt_later rfl rfl tie noOwnUnsafe
end Go.Proofs.YtcoackmdmohnhaaGreatDoor
