/-
  DERIVED. GIVEN WITH THE SEED: THE CARDS: each row of YtcoackmdmohnhaaGreatDoorRows.lean that lists a variable, with what it lists TIED to the program's text (the seventh form; the later family's looks); each row that meets fmt, with fmt's text TOLD by the authors' own Lean function (tested against real Go, not proved from fmt's source: count such statements apart). THE CARD IS WHAT COUNTS. Prove the row's statement (the work); the ties are given (YtcoackmdmohnhaaGreatDoorTie.lean); close each card by the builder's one call (the guide's Derived/Test/ToyasCard.lean, 'card_holds'). Laid BY PROGRAM, IN A SANDBOX (cutbox-door.mjs). By AI agents, Wed Nov 11 2026. No macro, syntax, notation, axiom, sorry.
-/
import Derived.Test.YtcoackmdmohnhaaGreatDoorRows
import GoSem.ClaimSeven
namespace Go.Proofs.YtcoackmdmohnhaaGreatDoor
namespace Rows

/-- THE TIED CARD OF 'spoondriftlaw18.ZxMeans'. -/
def zxMeansCard : Claim7 := { stood := { row := zxMeansRow, standIns := [], harness := (true, "885be0c9f6eb0006c8eee76cccddca7ea11d05c4a7f2bf484e9354237560a32f"), looks := false }, kinds := [], alts := [], laidByText := true, laidKinds := [.data, .data, .funcs, .mapped], laidTests := true, laidLooks := .later }
def ZxMeansCardSaid : Prop := Claim7.holds Tryz.pinned (.plain (OpenSpec.ofChange zxMeansSpec)) zxMeansCard

/-- THE TIED CARD OF 'spoondriftlaw18.ZxDraws'. -/
def zxDrawsCard : Claim7 := { stood := { row := zxDrawsRow, standIns := [], harness := (true, "885be0c9f6eb0006c8eee76cccddca7ea11d05c4a7f2bf484e9354237560a32f"), looks := false }, kinds := [], alts := [], laidByText := true, laidKinds := [.data, .data, .funcs, .mapped], laidTests := true, laidLooks := .later }
def ZxDrawsCardSaid : Prop := Claim7.holds Tryz.pinned (.plain (OpenSpec.ofChange zxDrawsSpec)) zxDrawsCard

/-- THE TIED CARD OF 'spoondriftlaw18.ZxDoes'. -/
def zxDoesCard : Claim7 := { stood := { row := zxDoesRow, standIns := [], harness := (true, "885be0c9f6eb0006c8eee76cccddca7ea11d05c4a7f2bf484e9354237560a32f"), looks := false }, kinds := [], alts := [], laidByText := true, laidKinds := [.data, .data, .funcs, .mapped], laidTests := true, laidLooks := .later }
def ZxDoesCardSaid : Prop := Claim7.holds Tryz.pinned (.plain (OpenSpec.ofChange zxDoesSpec)) zxDoesCard

/-- THE TIED CARD OF 'spoondriftlaw18.ZxPlugs'. -/
def zxPlugsCard : Claim7 := { stood := { row := zxPlugsRow, standIns := [], harness := (true, "885be0c9f6eb0006c8eee76cccddca7ea11d05c4a7f2bf484e9354237560a32f"), looks := false }, kinds := [], alts := [], laidByText := true, laidKinds := [.data, .data, .funcs, .mapped], laidTests := true, laidLooks := .later }
def ZxPlugsCardSaid : Prop := Claim7.holds Tryz.pinned (.plain (OpenSpec.ofChange zxPlugsSpec)) zxPlugsCard

/-- THE TIED CARD OF 'spoondriftlaw18.ZxFollows'. -/
def zxFollowsCard : Claim7 := { stood := { row := zxFollowsRow, standIns := [], harness := (true, "885be0c9f6eb0006c8eee76cccddca7ea11d05c4a7f2bf484e9354237560a32f"), looks := false }, kinds := [], alts := [], laidByText := true, laidKinds := [.data, .data, .funcs, .mapped], laidTests := true, laidLooks := .later }
def ZxFollowsCardSaid : Prop := Claim7.holds Tryz.pinned (.plain (OpenSpec.ofChange zxFollowsSpec)) zxFollowsCard

/-- THE TIED CARD OF 'spoondriftlaw18.ZxChecks'. -/
def zxChecksCard : Claim7 := { stood := { row := zxChecksRow, standIns := [], harness := (true, "885be0c9f6eb0006c8eee76cccddca7ea11d05c4a7f2bf484e9354237560a32f"), looks := false }, kinds := [], alts := [], laidByText := true, laidKinds := [.data, .data, .funcs, .mapped], laidTests := true, laidLooks := .later }
def ZxChecksCardSaid : Prop := Claim7.holds Tryz.pinned (.plain (OpenSpec.ofChange zxChecksSpec)) zxChecksCard

/-- THE TIED CARD OF 'spoondriftlaw18.ZxJoins'. -/
def zxJoinsCard : Claim7 := { stood := { row := zxJoinsRow, standIns := [], harness := (true, "885be0c9f6eb0006c8eee76cccddca7ea11d05c4a7f2bf484e9354237560a32f"), looks := false }, kinds := [], alts := [], laidByText := true, laidKinds := [.data, .data, .funcs, .mapped], laidTests := true, laidLooks := .later }
def ZxJoinsCardSaid : Prop := Claim7.holds Tryz.pinned (.plain (OpenSpec.ofChange zxJoinsSpec)) zxJoinsCard

/-- THE SECOND FORM's CARD OF 'spoondriftlaw18.ZxMeans'. -/
def zxMeansUptoCard : Claim7 := { stood := { row := zxMeansUptoRow, standIns := [], harness := (true, "885be0c9f6eb0006c8eee76cccddca7ea11d05c4a7f2bf484e9354237560a32f"), looks := false }, kinds := [], alts := [], laidByText := true, laidKinds := [.data, .data, .funcs, .mapped], laidTests := true, laidLooks := .later }
def ZxMeansUptoCardSaid : Prop := Claim7.holds Tryz.pinned (.plain (OpenSpec.upto zxMeansSpec)) zxMeansUptoCard

/-- THE SECOND FORM's CARD OF 'spoondriftlaw18.ZxDraws'. -/
def zxDrawsUptoCard : Claim7 := { stood := { row := zxDrawsUptoRow, standIns := [], harness := (true, "885be0c9f6eb0006c8eee76cccddca7ea11d05c4a7f2bf484e9354237560a32f"), looks := false }, kinds := [], alts := [], laidByText := true, laidKinds := [.data, .data, .funcs, .mapped], laidTests := true, laidLooks := .later }
def ZxDrawsUptoCardSaid : Prop := Claim7.holds Tryz.pinned (.plain (OpenSpec.upto zxDrawsSpec)) zxDrawsUptoCard

/-- THE SECOND FORM's CARD OF 'spoondriftlaw18.ZxDoes'. -/
def zxDoesUptoCard : Claim7 := { stood := { row := zxDoesUptoRow, standIns := [], harness := (true, "885be0c9f6eb0006c8eee76cccddca7ea11d05c4a7f2bf484e9354237560a32f"), looks := false }, kinds := [], alts := [], laidByText := true, laidKinds := [.data, .data, .funcs, .mapped], laidTests := true, laidLooks := .later }
def ZxDoesUptoCardSaid : Prop := Claim7.holds Tryz.pinned (.plain (OpenSpec.upto zxDoesSpec)) zxDoesUptoCard

/-- THE SECOND FORM's CARD OF 'spoondriftlaw18.ZxPlugs'. -/
def zxPlugsUptoCard : Claim7 := { stood := { row := zxPlugsUptoRow, standIns := [], harness := (true, "885be0c9f6eb0006c8eee76cccddca7ea11d05c4a7f2bf484e9354237560a32f"), looks := false }, kinds := [], alts := [], laidByText := true, laidKinds := [.data, .data, .funcs, .mapped], laidTests := true, laidLooks := .later }
def ZxPlugsUptoCardSaid : Prop := Claim7.holds Tryz.pinned (.plain (OpenSpec.upto zxPlugsSpec)) zxPlugsUptoCard

/-- THE SECOND FORM's CARD OF 'spoondriftlaw18.ZxFollows'. -/
def zxFollowsUptoCard : Claim7 := { stood := { row := zxFollowsUptoRow, standIns := [], harness := (true, "885be0c9f6eb0006c8eee76cccddca7ea11d05c4a7f2bf484e9354237560a32f"), looks := false }, kinds := [], alts := [], laidByText := true, laidKinds := [.data, .data, .funcs, .mapped], laidTests := true, laidLooks := .later }
def ZxFollowsUptoCardSaid : Prop := Claim7.holds Tryz.pinned (.plain (OpenSpec.upto zxFollowsSpec)) zxFollowsUptoCard

/-- THE SECOND FORM's CARD OF 'spoondriftlaw18.ZxChecks'. -/
def zxChecksUptoCard : Claim7 := { stood := { row := zxChecksUptoRow, standIns := [], harness := (true, "885be0c9f6eb0006c8eee76cccddca7ea11d05c4a7f2bf484e9354237560a32f"), looks := false }, kinds := [], alts := [], laidByText := true, laidKinds := [.data, .data, .funcs, .mapped], laidTests := true, laidLooks := .later }
def ZxChecksUptoCardSaid : Prop := Claim7.holds Tryz.pinned (.plain (OpenSpec.upto zxChecksSpec)) zxChecksUptoCard

/-- THE SECOND FORM's CARD OF 'spoondriftlaw18.ZxJoins'. -/
def zxJoinsUptoCard : Claim7 := { stood := { row := zxJoinsUptoRow, standIns := [], harness := (true, "885be0c9f6eb0006c8eee76cccddca7ea11d05c4a7f2bf484e9354237560a32f"), looks := false }, kinds := [], alts := [], laidByText := true, laidKinds := [.data, .data, .funcs, .mapped], laidTests := true, laidLooks := .later }
def ZxJoinsUptoCardSaid : Prop := Claim7.holds Tryz.pinned (.plain (OpenSpec.upto zxJoinsSpec)) zxJoinsUptoCard
end Rows
end Go.Proofs.YtcoackmdmohnhaaGreatDoor
