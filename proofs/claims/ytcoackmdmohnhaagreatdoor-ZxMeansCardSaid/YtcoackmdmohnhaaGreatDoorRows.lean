/-
  NARROWER THAN 'FOR EVERY INPUT', by the rows' own cells (each row's printed sentence says how): ZxMeans: laid · ZxDraws: laid · ZxDoes: laid · ZxPlugs: laid · ZxFollows: laid · ZxChecks: laid · ZxJoins: laid.
  DERIVED. THE GIVEN ROWS OF THIS SEAT. 7 by the template 'for every input the law returns true; each argument reads behind the call as it read before'; 0 by the template 'total and deterministic' (their statements: YtcoackmdmohnhaaGreatDoorTotals.lean).
  GIVEN WITH THE SEED: the statements are not yours to turn. If you find one false, say at which input.
  Laid BY PROGRAM, IN A SANDBOX (cutbox-rows.mjs): the forced cells as the released guide's own fill.sh prints them over the translation 35d2031d09349c57… (all of the seat's roots in one cut). By AI agents, Wed Nov 11 2026. No macro, syntax, notation, axiom, sorry.
-/
import Derived.Test.YtcoackmdmohnhaaGreatDoorChecked
import GoSem.Claim
import GoSem.ClaimJoined
import GoSem.ClaimMapViews
import Derived.JoinedTies
import Derived.KernelRfl
namespace Go.Proofs.YtcoackmdmohnhaaGreatDoor
/- THE CELL 'sum', in the pinned program and in every row, IS THE sha256 OF THE DUMP (.gsa) THAT YtcoackmdmohnhaaGreatDoorProg.lean LOADS. Nothing in Lean hashes anything: it is a label: what it is worth is what the hold of that sum in a sandbox is worth. -/
noncomputable def Tryz.pinned : Pinned := { name := "ytcoackmdmohnhaagreatdoor", sum := "35d2031d09349c5735af401a27bbf3b35353cfad66f341eea485110cd7c4db1c", checked := Tryz.checked }
namespace Rows
def none {H : Type} : Left H := { results := [], args := [] }

/- WHAT THE LISTED PACKAGE-LEVEL VARIABLES READ AS WHEN THE CALL BEGINS. Each datum BY PROGRAM (the guide's laid-datum.mjs) off the statement by which the dump's own 'gosem.cut.vars' lays the variable. In a bare row this is a premise. The card (YtcoackmdmohnhaaGreatDoorCards.lean) ties it to the program's text. -/
def laid_spoondrift_zx_order {H : Type} : DataW H := .agg [.lit (.int .i64 2), .lit (.int .i64 3), .lit (.int .i64 1), .lit (.int .i64 5), .lit (.int .i64 6), .lit (.int .i64 4), .lit (.int .i64 7), .lit (.int .i64 8)]
def laid_spoondrift_zx_root {H : Type} : DataW H := .agg [.lit (.int .i64 0), .lit (.int .i64 1), .lit (.int .i64 0), .lit (.int .i64 (-1)), .lit (.int .i64 0)]
def laid_spoondrift_zx_rules {H : Type} : DataW H := .iface "func table" (.agg [.agg [.lit (.bool false), .nil], .agg [.lit (.bool true), .iface "func" (.lit (.string [40, 42, 115, 112, 111, 111, 110, 100, 114, 105, 102, 116, 47, 122, 120, 46, 119, 111, 114, 107, 41, 46, 102, 117, 115, 101, 115]))], .agg [.lit (.bool false), .iface "func" (.lit (.string [40, 42, 115, 112, 111, 111, 110, 100, 114, 105, 102, 116, 47, 122, 120, 46, 119, 111, 114, 107, 41, 46, 116, 117, 114, 110, 115]))], .agg [.lit (.bool true), .iface "func" (.lit (.string [40, 42, 115, 112, 111, 111, 110, 100, 114, 105, 102, 116, 47, 122, 120, 46, 119, 111, 114, 107, 41, 46, 108, 111, 111, 112, 115]))], .agg [.lit (.bool false), .iface "func" (.lit (.string [40, 42, 115, 112, 111, 111, 110, 100, 114, 105, 102, 116, 47, 122, 120, 46, 119, 111, 114, 107, 41, 46, 117, 110, 105, 116, 115]))], .agg [.lit (.bool true), .iface "func" (.lit (.string [40, 42, 115, 112, 111, 111, 110, 100, 114, 105, 102, 116, 47, 122, 120, 46, 119, 111, 114, 107, 41, 46, 112, 97, 105, 114, 115]))], .agg [.lit (.bool false), .iface "func" (.lit (.string [40, 42, 115, 112, 111, 111, 110, 100, 114, 105, 102, 116, 47, 122, 120, 46, 119, 111, 114, 107, 41, 46, 100, 114, 111, 112, 115]))], .agg [.lit (.bool false), .iface "func" (.lit (.string [40, 42, 115, 112, 111, 111, 110, 100, 114, 105, 102, 116, 47, 122, 120, 46, 119, 111, 114, 107, 41, 46, 99, 111, 109, 112, 115]))], .agg [.lit (.bool true), .iface "func" (.lit (.string [40, 42, 115, 112, 111, 111, 110, 100, 114, 105, 102, 116, 47, 122, 120, 46, 119, 111, 114, 107, 41, 46, 112, 105, 118, 111, 116, 115]))]])
def laid_spoondrift_zx_phases {H : Type} : DataW H := .map [(.int .i64 3, .lit (.int .i64 4)), (.int .i64 5, .lit (.int .i64 2)), (.int .i64 6, .lit (.int .i64 6)), (.int .i64 7, .lit (.int .i64 1)), (.int .i64 8, .lit (.int .i64 7))]

/-- 'spoondriftlaw18.ZxMeans': WHATEVER THE INPUT: true; the input reads as it did. -/
def zxMeansSpec : ChangeSpec := { name := "zxMeans", fn := fun _ => fun
  | [d] => { results := [.lit (.bool true)], args := [d] }
  | _ => none }
def zxMeansRow : OpenClaim := { program := "ytcoackmdmohnhaagreatdoor", sum := "35d2031d09349c5735af401a27bbf3b35353cfad66f341eea485110cd7c4db1c", func := "spoondrift/spoondriftlaw18.ZxMeans", spec := "zxMeans", unfollowed := true, recurses := true, named := ["spoondrift/zx.phases", "spoondrift/zx.root", "spoondrift/zx.order", "spoondrift/zx.rules"], apart := false, laid := [("spoondrift/zx.order", laid_spoondrift_zx_order), ("spoondrift/zx.root", laid_spoondrift_zx_root), ("spoondrift/zx.rules", laid_spoondrift_zx_rules), ("spoondrift/zx.phases", laid_spoondrift_zx_phases)] }
def ZxMeansSaid : Prop := zxMeansRow.holds Tryz.pinned (OpenSpec.ofChange zxMeansSpec)

/-- ITS FALSE NEIGHBOUR: 'it returns false'. Refute it at one input. -/
def zxMeansWrong : ChangeSpec := { name := "zxMeans", fn := fun _ => fun
  | [d] => { results := [.lit (.bool false)], args := [d] }
  | _ => none }
def ZxMeansWrongFalsely : Prop := zxMeansRow.holds Tryz.pinned (OpenSpec.ofChange zxMeansWrong)

/-- 'spoondriftlaw18.ZxDraws': WHATEVER THE INPUT: true; the input reads as it did. -/
def zxDrawsSpec : ChangeSpec := { name := "zxDraws", fn := fun _ => fun
  | [d] => { results := [.lit (.bool true)], args := [d] }
  | _ => none }
def zxDrawsRow : OpenClaim := { program := "ytcoackmdmohnhaagreatdoor", sum := "35d2031d09349c5735af401a27bbf3b35353cfad66f341eea485110cd7c4db1c", func := "spoondrift/spoondriftlaw18.ZxDraws", spec := "zxDraws", unfollowed := true, recurses := true, named := ["spoondrift/zx.phases", "spoondrift/zx.root", "spoondrift/zx.order", "spoondrift/zx.rules"], apart := false, laid := [("spoondrift/zx.order", laid_spoondrift_zx_order), ("spoondrift/zx.root", laid_spoondrift_zx_root), ("spoondrift/zx.rules", laid_spoondrift_zx_rules), ("spoondrift/zx.phases", laid_spoondrift_zx_phases)] }
def ZxDrawsSaid : Prop := zxDrawsRow.holds Tryz.pinned (OpenSpec.ofChange zxDrawsSpec)

/-- ITS FALSE NEIGHBOUR: 'it returns false'. Refute it at one input. -/
def zxDrawsWrong : ChangeSpec := { name := "zxDraws", fn := fun _ => fun
  | [d] => { results := [.lit (.bool false)], args := [d] }
  | _ => none }
def ZxDrawsWrongFalsely : Prop := zxDrawsRow.holds Tryz.pinned (OpenSpec.ofChange zxDrawsWrong)

/-- 'spoondriftlaw18.ZxDoes': WHATEVER THE INPUT: true; the input reads as it did. -/
def zxDoesSpec : ChangeSpec := { name := "zxDoes", fn := fun _ => fun
  | [d1, d2] => { results := [.lit (.bool true)], args := [d1, d2] }
  | _ => none }
def zxDoesRow : OpenClaim := { program := "ytcoackmdmohnhaagreatdoor", sum := "35d2031d09349c5735af401a27bbf3b35353cfad66f341eea485110cd7c4db1c", func := "spoondrift/spoondriftlaw18.ZxDoes", spec := "zxDoes", unfollowed := true, recurses := true, named := ["spoondrift/zx.phases", "spoondrift/zx.root", "spoondrift/zx.order", "spoondrift/zx.rules"], apart := false, laid := [("spoondrift/zx.order", laid_spoondrift_zx_order), ("spoondrift/zx.root", laid_spoondrift_zx_root), ("spoondrift/zx.rules", laid_spoondrift_zx_rules), ("spoondrift/zx.phases", laid_spoondrift_zx_phases)] }
def ZxDoesSaid : Prop := zxDoesRow.holds Tryz.pinned (OpenSpec.ofChange zxDoesSpec)

/-- ITS FALSE NEIGHBOUR: 'it returns false'. Refute it at one input. -/
def zxDoesWrong : ChangeSpec := { name := "zxDoes", fn := fun _ => fun
  | [d1, d2] => { results := [.lit (.bool false)], args := [d1, d2] }
  | _ => none }
def ZxDoesWrongFalsely : Prop := zxDoesRow.holds Tryz.pinned (OpenSpec.ofChange zxDoesWrong)

/-- 'spoondriftlaw18.ZxPlugs': WHATEVER THE INPUT: true; the input reads as it did. -/
def zxPlugsSpec : ChangeSpec := { name := "zxPlugs", fn := fun _ => fun
  | [d1, d2, d3] => { results := [.lit (.bool true)], args := [d1, d2, d3] }
  | _ => none }
def zxPlugsRow : OpenClaim := { program := "ytcoackmdmohnhaagreatdoor", sum := "35d2031d09349c5735af401a27bbf3b35353cfad66f341eea485110cd7c4db1c", func := "spoondrift/spoondriftlaw18.ZxPlugs", spec := "zxPlugs", unfollowed := true, recurses := true, named := ["spoondrift/zx.phases", "spoondrift/zx.root", "spoondrift/zx.order", "spoondrift/zx.rules"], apart := false, laid := [("spoondrift/zx.order", laid_spoondrift_zx_order), ("spoondrift/zx.root", laid_spoondrift_zx_root), ("spoondrift/zx.rules", laid_spoondrift_zx_rules), ("spoondrift/zx.phases", laid_spoondrift_zx_phases)] }
def ZxPlugsSaid : Prop := zxPlugsRow.holds Tryz.pinned (OpenSpec.ofChange zxPlugsSpec)

/-- ITS FALSE NEIGHBOUR: 'it returns false'. Refute it at one input. -/
def zxPlugsWrong : ChangeSpec := { name := "zxPlugs", fn := fun _ => fun
  | [d1, d2, d3] => { results := [.lit (.bool false)], args := [d1, d2, d3] }
  | _ => none }
def ZxPlugsWrongFalsely : Prop := zxPlugsRow.holds Tryz.pinned (OpenSpec.ofChange zxPlugsWrong)

/-- 'spoondriftlaw18.ZxFollows': WHATEVER THE INPUT: true; the input reads as it did. -/
def zxFollowsSpec : ChangeSpec := { name := "zxFollows", fn := fun _ => fun
  | [d1, d2] => { results := [.lit (.bool true)], args := [d1, d2] }
  | _ => none }
def zxFollowsRow : OpenClaim := { program := "ytcoackmdmohnhaagreatdoor", sum := "35d2031d09349c5735af401a27bbf3b35353cfad66f341eea485110cd7c4db1c", func := "spoondrift/spoondriftlaw18.ZxFollows", spec := "zxFollows", unfollowed := true, recurses := true, named := ["spoondrift/zx.phases", "spoondrift/zx.root", "spoondrift/zx.order", "spoondrift/zx.rules"], apart := false, laid := [("spoondrift/zx.order", laid_spoondrift_zx_order), ("spoondrift/zx.root", laid_spoondrift_zx_root), ("spoondrift/zx.rules", laid_spoondrift_zx_rules), ("spoondrift/zx.phases", laid_spoondrift_zx_phases)] }
def ZxFollowsSaid : Prop := zxFollowsRow.holds Tryz.pinned (OpenSpec.ofChange zxFollowsSpec)

/-- ITS FALSE NEIGHBOUR: 'it returns false'. Refute it at one input. -/
def zxFollowsWrong : ChangeSpec := { name := "zxFollows", fn := fun _ => fun
  | [d1, d2] => { results := [.lit (.bool false)], args := [d1, d2] }
  | _ => none }
def ZxFollowsWrongFalsely : Prop := zxFollowsRow.holds Tryz.pinned (OpenSpec.ofChange zxFollowsWrong)

/-- 'spoondriftlaw18.ZxChecks': WHATEVER THE INPUT: true; the input reads as it did. -/
def zxChecksSpec : ChangeSpec := { name := "zxChecks", fn := fun _ => fun
  | [d1, d2] => { results := [.lit (.bool true)], args := [d1, d2] }
  | _ => none }
def zxChecksRow : OpenClaim := { program := "ytcoackmdmohnhaagreatdoor", sum := "35d2031d09349c5735af401a27bbf3b35353cfad66f341eea485110cd7c4db1c", func := "spoondrift/spoondriftlaw18.ZxChecks", spec := "zxChecks", unfollowed := true, recurses := true, named := ["spoondrift/zx.phases", "spoondrift/zx.root", "spoondrift/zx.order", "spoondrift/zx.rules"], apart := false, laid := [("spoondrift/zx.order", laid_spoondrift_zx_order), ("spoondrift/zx.root", laid_spoondrift_zx_root), ("spoondrift/zx.rules", laid_spoondrift_zx_rules), ("spoondrift/zx.phases", laid_spoondrift_zx_phases)] }
def ZxChecksSaid : Prop := zxChecksRow.holds Tryz.pinned (OpenSpec.ofChange zxChecksSpec)

/-- ITS FALSE NEIGHBOUR: 'it returns false'. Refute it at one input. -/
def zxChecksWrong : ChangeSpec := { name := "zxChecks", fn := fun _ => fun
  | [d1, d2] => { results := [.lit (.bool false)], args := [d1, d2] }
  | _ => none }
def ZxChecksWrongFalsely : Prop := zxChecksRow.holds Tryz.pinned (OpenSpec.ofChange zxChecksWrong)

/-- 'spoondriftlaw18.ZxJoins': WHATEVER THE INPUT: true; the input reads as it did. -/
def zxJoinsSpec : ChangeSpec := { name := "zxJoins", fn := fun _ => fun
  | [d1, d2] => { results := [.lit (.bool true)], args := [d1, d2] }
  | _ => none }
def zxJoinsRow : OpenClaim := { program := "ytcoackmdmohnhaagreatdoor", sum := "35d2031d09349c5735af401a27bbf3b35353cfad66f341eea485110cd7c4db1c", func := "spoondrift/spoondriftlaw18.ZxJoins", spec := "zxJoins", unfollowed := true, recurses := true, named := ["spoondrift/zx.phases", "spoondrift/zx.root", "spoondrift/zx.order", "spoondrift/zx.rules"], apart := false, laid := [("spoondrift/zx.order", laid_spoondrift_zx_order), ("spoondrift/zx.root", laid_spoondrift_zx_root), ("spoondrift/zx.rules", laid_spoondrift_zx_rules), ("spoondrift/zx.phases", laid_spoondrift_zx_phases)] }
def ZxJoinsSaid : Prop := zxJoinsRow.holds Tryz.pinned (OpenSpec.ofChange zxJoinsSpec)

/-- ITS FALSE NEIGHBOUR: 'it returns false'. Refute it at one input. -/
def zxJoinsWrong : ChangeSpec := { name := "zxJoins", fn := fun _ => fun
  | [d1, d2] => { results := [.lit (.bool false)], args := [d1, d2] }
  | _ => none }
def ZxJoinsWrongFalsely : Prop := zxJoinsRow.holds Tryz.pinned (OpenSpec.ofChange zxJoinsWrong)

/- THE SECOND FORM. 'bulk': how many values and letters a reading holds, each counted each time it is reached (what is shared counts as often as it is met; a slice's spare places count too). A statement '..UptoSaid' is the law's where the arguments, and the package variables that the reading takes, are together of bulk at most 1048576: NARROWER than '..Said'. Prove '..Said' where nothing that the law and all that it calls make is longer than what came in: it says more and counts as full. Else prove '..UptoSaid'. A law counts once. -/
mutual
def uptoBulk {H : Type} : DataW H → Nat
  | .lit (.string bytes) => bytes.length + 1
  | .lit _ => 1
  | .nil => 1
  | .ptr d => uptoBulk d + 1
  | .slice elems spare => uptoBulkAll elems + uptoBulkAll spare + 1
  | .agg parts => uptoBulkAll parts + 1
  | .iface _ d => uptoBulk d + 1
  | .map entries => uptoBulkEntries entries + 1
  | .held _ => 1
def uptoBulkAll {H : Type} : List (DataW H) → Nat
  | [] => 0
  | d :: r => uptoBulk d + uptoBulkAll r
def uptoBulkEntries {H : Type} : List (Lit × DataW H) → Nat
  | [] => 0
  | x :: r => uptoBulkEntry x + uptoBulkEntries r
def uptoBulkEntry {H : Type} : Lit × DataW H → Nat
  | (.string bytes, d) => bytes.length + uptoBulk d + 1
  | (_, d) => uptoBulk d + 1
 end
def uptoSmall : (H : Type) → List (DataW H) → Bool := fun _ ds => decide (uptoBulkAll ds ≤ 1048576)
def OpenSpec.upto (s : _root_.Go.ChangeSpec) : _root_.Go.OpenSpec := { _root_.Go.OpenSpec.ofChange s with cond := some uptoSmall }

/-- 'spoondriftlaw18.ZxMeans', WHERE WHAT IT READS IS OF BULK AT MOST 1048576: true; the input reads as it did. -/
def zxMeansUptoRow : OpenClaim := { program := "ytcoackmdmohnhaagreatdoor", sum := "35d2031d09349c5735af401a27bbf3b35353cfad66f341eea485110cd7c4db1c", func := "spoondrift/spoondriftlaw18.ZxMeans", spec := "zxMeans", unfollowed := true, recurses := true, named := ["spoondrift/zx.phases", "spoondrift/zx.root", "spoondrift/zx.order", "spoondrift/zx.rules"], apart := false, laid := [("spoondrift/zx.order", laid_spoondrift_zx_order), ("spoondrift/zx.root", laid_spoondrift_zx_root), ("spoondrift/zx.rules", laid_spoondrift_zx_rules), ("spoondrift/zx.phases", laid_spoondrift_zx_phases)], narrowed := true }
def ZxMeansUptoSaid : Prop := zxMeansUptoRow.holds Tryz.pinned (OpenSpec.upto zxMeansSpec)

/-- 'spoondriftlaw18.ZxDraws', WHERE WHAT IT READS IS OF BULK AT MOST 1048576: true; the input reads as it did. -/
def zxDrawsUptoRow : OpenClaim := { program := "ytcoackmdmohnhaagreatdoor", sum := "35d2031d09349c5735af401a27bbf3b35353cfad66f341eea485110cd7c4db1c", func := "spoondrift/spoondriftlaw18.ZxDraws", spec := "zxDraws", unfollowed := true, recurses := true, named := ["spoondrift/zx.phases", "spoondrift/zx.root", "spoondrift/zx.order", "spoondrift/zx.rules"], apart := false, laid := [("spoondrift/zx.order", laid_spoondrift_zx_order), ("spoondrift/zx.root", laid_spoondrift_zx_root), ("spoondrift/zx.rules", laid_spoondrift_zx_rules), ("spoondrift/zx.phases", laid_spoondrift_zx_phases)], narrowed := true }
def ZxDrawsUptoSaid : Prop := zxDrawsUptoRow.holds Tryz.pinned (OpenSpec.upto zxDrawsSpec)

/-- 'spoondriftlaw18.ZxDoes', WHERE WHAT IT READS IS OF BULK AT MOST 1048576: true; the input reads as it did. -/
def zxDoesUptoRow : OpenClaim := { program := "ytcoackmdmohnhaagreatdoor", sum := "35d2031d09349c5735af401a27bbf3b35353cfad66f341eea485110cd7c4db1c", func := "spoondrift/spoondriftlaw18.ZxDoes", spec := "zxDoes", unfollowed := true, recurses := true, named := ["spoondrift/zx.phases", "spoondrift/zx.root", "spoondrift/zx.order", "spoondrift/zx.rules"], apart := false, laid := [("spoondrift/zx.order", laid_spoondrift_zx_order), ("spoondrift/zx.root", laid_spoondrift_zx_root), ("spoondrift/zx.rules", laid_spoondrift_zx_rules), ("spoondrift/zx.phases", laid_spoondrift_zx_phases)], narrowed := true }
def ZxDoesUptoSaid : Prop := zxDoesUptoRow.holds Tryz.pinned (OpenSpec.upto zxDoesSpec)

/-- 'spoondriftlaw18.ZxPlugs', WHERE WHAT IT READS IS OF BULK AT MOST 1048576: true; the input reads as it did. -/
def zxPlugsUptoRow : OpenClaim := { program := "ytcoackmdmohnhaagreatdoor", sum := "35d2031d09349c5735af401a27bbf3b35353cfad66f341eea485110cd7c4db1c", func := "spoondrift/spoondriftlaw18.ZxPlugs", spec := "zxPlugs", unfollowed := true, recurses := true, named := ["spoondrift/zx.phases", "spoondrift/zx.root", "spoondrift/zx.order", "spoondrift/zx.rules"], apart := false, laid := [("spoondrift/zx.order", laid_spoondrift_zx_order), ("spoondrift/zx.root", laid_spoondrift_zx_root), ("spoondrift/zx.rules", laid_spoondrift_zx_rules), ("spoondrift/zx.phases", laid_spoondrift_zx_phases)], narrowed := true }
def ZxPlugsUptoSaid : Prop := zxPlugsUptoRow.holds Tryz.pinned (OpenSpec.upto zxPlugsSpec)

/-- 'spoondriftlaw18.ZxFollows', WHERE WHAT IT READS IS OF BULK AT MOST 1048576: true; the input reads as it did. -/
def zxFollowsUptoRow : OpenClaim := { program := "ytcoackmdmohnhaagreatdoor", sum := "35d2031d09349c5735af401a27bbf3b35353cfad66f341eea485110cd7c4db1c", func := "spoondrift/spoondriftlaw18.ZxFollows", spec := "zxFollows", unfollowed := true, recurses := true, named := ["spoondrift/zx.phases", "spoondrift/zx.root", "spoondrift/zx.order", "spoondrift/zx.rules"], apart := false, laid := [("spoondrift/zx.order", laid_spoondrift_zx_order), ("spoondrift/zx.root", laid_spoondrift_zx_root), ("spoondrift/zx.rules", laid_spoondrift_zx_rules), ("spoondrift/zx.phases", laid_spoondrift_zx_phases)], narrowed := true }
def ZxFollowsUptoSaid : Prop := zxFollowsUptoRow.holds Tryz.pinned (OpenSpec.upto zxFollowsSpec)

/-- 'spoondriftlaw18.ZxChecks', WHERE WHAT IT READS IS OF BULK AT MOST 1048576: true; the input reads as it did. -/
def zxChecksUptoRow : OpenClaim := { program := "ytcoackmdmohnhaagreatdoor", sum := "35d2031d09349c5735af401a27bbf3b35353cfad66f341eea485110cd7c4db1c", func := "spoondrift/spoondriftlaw18.ZxChecks", spec := "zxChecks", unfollowed := true, recurses := true, named := ["spoondrift/zx.phases", "spoondrift/zx.root", "spoondrift/zx.order", "spoondrift/zx.rules"], apart := false, laid := [("spoondrift/zx.order", laid_spoondrift_zx_order), ("spoondrift/zx.root", laid_spoondrift_zx_root), ("spoondrift/zx.rules", laid_spoondrift_zx_rules), ("spoondrift/zx.phases", laid_spoondrift_zx_phases)], narrowed := true }
def ZxChecksUptoSaid : Prop := zxChecksUptoRow.holds Tryz.pinned (OpenSpec.upto zxChecksSpec)

/-- 'spoondriftlaw18.ZxJoins', WHERE WHAT IT READS IS OF BULK AT MOST 1048576: true; the input reads as it did. -/
def zxJoinsUptoRow : OpenClaim := { program := "ytcoackmdmohnhaagreatdoor", sum := "35d2031d09349c5735af401a27bbf3b35353cfad66f341eea485110cd7c4db1c", func := "spoondrift/spoondriftlaw18.ZxJoins", spec := "zxJoins", unfollowed := true, recurses := true, named := ["spoondrift/zx.phases", "spoondrift/zx.root", "spoondrift/zx.order", "spoondrift/zx.rules"], apart := false, laid := [("spoondrift/zx.order", laid_spoondrift_zx_order), ("spoondrift/zx.root", laid_spoondrift_zx_root), ("spoondrift/zx.rules", laid_spoondrift_zx_rules), ("spoondrift/zx.phases", laid_spoondrift_zx_phases)], narrowed := true }
def ZxJoinsUptoSaid : Prop := zxJoinsUptoRow.holds Tryz.pinned (OpenSpec.upto zxJoinsSpec)

end Rows
end Go.Proofs.YtcoackmdmohnhaaGreatDoor
