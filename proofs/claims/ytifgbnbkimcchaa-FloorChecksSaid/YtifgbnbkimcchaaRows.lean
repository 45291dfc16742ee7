/-
  No cell of these rows narrows 'for every input' (looked for: loops, veiled, ifaces, maps, wideKeys, modest, calm, conditions, laid).
  DERIVED. THE GIVEN ROWS OF THIS SEAT. 10 by the template 'for every input the law returns true; each argument reads behind the call as it read before'; 0 by the template 'total and deterministic' (their statements: YtifgbnbkimcchaaTotals.lean).
  GIVEN WITH THE SEED: the statements are not yours to turn. If you find one false, say at which input.
  Laid BY PROGRAM, IN A SANDBOX (cutbox-rows.mjs): the forced cells as the released guide's own fill.sh prints them over the translation dbbcc9686093ff96… (all of the seat's roots in one cut). By AI agents, Wed Nov 11 2026. No macro, syntax, notation, axiom, sorry.
-/
import Derived.Test.YtifgbnbkimcchaaChecked
import GoSem.Claim
import GoSem.ClaimJoined
import GoSem.ClaimMapViews
import Derived.JoinedTies
import Derived.KernelRfl
namespace Go.Proofs.Ytifgbnbkimcchaa
/- THE CELL 'sum', in the pinned program and in every row, IS THE sha256 OF THE DUMP (.gsa) THAT YtifgbnbkimcchaaProg.lean LOADS. Nothing in Lean hashes anything: it is a label: what it is worth is what the hold of that sum in a sandbox is worth. -/
noncomputable def Try.pinned : Pinned := { name := "ytifgbnbkimcchaa", sum := "dbbcc9686093ff962dc30bb4a44a9cabacc6aaf544f041c055cfc1abca8f071b", checked := Try.checked }
namespace Rows
def none {H : Type} : Left H := { results := [], args := [] }

/-- 'staddlelaw05.FloorPays': WHATEVER THE INPUT: true; the input reads as it did. -/
def floorPaysSpec : ChangeSpec := { name := "floorPays", fn := fun _ => fun
  | [d1, d2, d3] => { results := [.lit (.bool true)], args := [d1, d2, d3] }
  | _ => none }
def floorPaysRow : OpenClaim := { program := "ytifgbnbkimcchaa", sum := "dbbcc9686093ff962dc30bb4a44a9cabacc6aaf544f041c055cfc1abca8f071b", func := "staddle/staddlelaw05.FloorPays", spec := "floorPays", unfollowed := true, recurses := true, apart := false }
def FloorPaysSaid : Prop := floorPaysRow.holds Try.pinned (OpenSpec.ofChange floorPaysSpec)

/-- ITS FALSE NEIGHBOUR: 'it returns false'. Refute it at one input. -/
def floorPaysWrong : ChangeSpec := { name := "floorPays", fn := fun _ => fun
  | [d1, d2, d3] => { results := [.lit (.bool false)], args := [d1, d2, d3] }
  | _ => none }
def FloorPaysWrongFalsely : Prop := floorPaysRow.holds Try.pinned (OpenSpec.ofChange floorPaysWrong)

/-- 'staddlelaw05.FloorSafe': WHATEVER THE INPUT: true; the input reads as it did. -/
def floorSafeSpec : ChangeSpec := { name := "floorSafe", fn := fun _ => fun
  | [d1, d2, d3] => { results := [.lit (.bool true)], args := [d1, d2, d3] }
  | _ => none }
def floorSafeRow : OpenClaim := { program := "ytifgbnbkimcchaa", sum := "dbbcc9686093ff962dc30bb4a44a9cabacc6aaf544f041c055cfc1abca8f071b", func := "staddle/staddlelaw05.FloorSafe", spec := "floorSafe", unfollowed := true, recurses := true, apart := false }
def FloorSafeSaid : Prop := floorSafeRow.holds Try.pinned (OpenSpec.ofChange floorSafeSpec)

/-- ITS FALSE NEIGHBOUR: 'it returns false'. Refute it at one input. -/
def floorSafeWrong : ChangeSpec := { name := "floorSafe", fn := fun _ => fun
  | [d1, d2, d3] => { results := [.lit (.bool false)], args := [d1, d2, d3] }
  | _ => none }
def FloorSafeWrongFalsely : Prop := floorSafeRow.holds Try.pinned (OpenSpec.ofChange floorSafeWrong)

/-- 'staddlelaw05.FloorChecks': WHATEVER THE INPUT: true; the input reads as it did. -/
def floorChecksSpec : ChangeSpec := { name := "floorChecks", fn := fun _ => fun
  | [d1, d2, d3] => { results := [.lit (.bool true)], args := [d1, d2, d3] }
  | _ => none }
def floorChecksRow : OpenClaim := { program := "ytifgbnbkimcchaa", sum := "dbbcc9686093ff962dc30bb4a44a9cabacc6aaf544f041c055cfc1abca8f071b", func := "staddle/staddlelaw05.FloorChecks", spec := "floorChecks", unfollowed := true, recurses := true, apart := false }
def FloorChecksSaid : Prop := floorChecksRow.holds Try.pinned (OpenSpec.ofChange floorChecksSpec)

/-- ITS FALSE NEIGHBOUR: 'it returns false'. Refute it at one input. -/
def floorChecksWrong : ChangeSpec := { name := "floorChecks", fn := fun _ => fun
  | [d1, d2, d3] => { results := [.lit (.bool false)], args := [d1, d2, d3] }
  | _ => none }
def FloorChecksWrongFalsely : Prop := floorChecksRow.holds Try.pinned (OpenSpec.ofChange floorChecksWrong)

/-- 'staddlelaw05.FloorOrders': WHATEVER THE INPUT: true; the input reads as it did. -/
def floorOrdersSpec : ChangeSpec := { name := "floorOrders", fn := fun _ => fun
  | [d1, d2] => { results := [.lit (.bool true)], args := [d1, d2] }
  | _ => none }
def floorOrdersRow : OpenClaim := { program := "ytifgbnbkimcchaa", sum := "dbbcc9686093ff962dc30bb4a44a9cabacc6aaf544f041c055cfc1abca8f071b", func := "staddle/staddlelaw05.FloorOrders", spec := "floorOrders", unfollowed := true, recurses := true, apart := false }
def FloorOrdersSaid : Prop := floorOrdersRow.holds Try.pinned (OpenSpec.ofChange floorOrdersSpec)

/-- ITS FALSE NEIGHBOUR: 'it returns false'. Refute it at one input. -/
def floorOrdersWrong : ChangeSpec := { name := "floorOrders", fn := fun _ => fun
  | [d1, d2] => { results := [.lit (.bool false)], args := [d1, d2] }
  | _ => none }
def FloorOrdersWrongFalsely : Prop := floorOrdersRow.holds Try.pinned (OpenSpec.ofChange floorOrdersWrong)

/-- 'staddlelaw05.FloorNamed': WHATEVER THE INPUT: true; the input reads as it did. -/
def floorNamedSpec : ChangeSpec := { name := "floorNamed", fn := fun _ => fun
  | [d1, d2] => { results := [.lit (.bool true)], args := [d1, d2] }
  | _ => none }
def floorNamedRow : OpenClaim := { program := "ytifgbnbkimcchaa", sum := "dbbcc9686093ff962dc30bb4a44a9cabacc6aaf544f041c055cfc1abca8f071b", func := "staddle/staddlelaw05.FloorNamed", spec := "floorNamed", inPlace := ["slices.overlaps[int]"], unfollowed := true, recurses := true, apart := false }
def FloorNamedSaid : Prop := floorNamedRow.holds Try.pinned (OpenSpec.ofChange floorNamedSpec)

/-- ITS FALSE NEIGHBOUR: 'it returns false'. Refute it at one input. -/
def floorNamedWrong : ChangeSpec := { name := "floorNamed", fn := fun _ => fun
  | [d1, d2] => { results := [.lit (.bool false)], args := [d1, d2] }
  | _ => none }
def FloorNamedWrongFalsely : Prop := floorNamedRow.holds Try.pinned (OpenSpec.ofChange floorNamedWrong)

/-- 'staddlelaw05.FloorCounted': WHATEVER THE INPUT: true; the input reads as it did. -/
def floorCountedSpec : ChangeSpec := { name := "floorCounted", fn := fun _ => fun
  | [d1, d2, d3] => { results := [.lit (.bool true)], args := [d1, d2, d3] }
  | _ => none }
def floorCountedRow : OpenClaim := { program := "ytifgbnbkimcchaa", sum := "dbbcc9686093ff962dc30bb4a44a9cabacc6aaf544f041c055cfc1abca8f071b", func := "staddle/staddlelaw05.FloorCounted", spec := "floorCounted", inPlace := ["slices.overlaps[int]"], unfollowed := true, recurses := true, apart := false }
def FloorCountedSaid : Prop := floorCountedRow.holds Try.pinned (OpenSpec.ofChange floorCountedSpec)

/-- ITS FALSE NEIGHBOUR: 'it returns false'. Refute it at one input. -/
def floorCountedWrong : ChangeSpec := { name := "floorCounted", fn := fun _ => fun
  | [d1, d2, d3] => { results := [.lit (.bool false)], args := [d1, d2, d3] }
  | _ => none }
def FloorCountedWrongFalsely : Prop := floorCountedRow.holds Try.pinned (OpenSpec.ofChange floorCountedWrong)

/-- 'staddlelaw05.FloorRule': WHATEVER THE INPUT: true; the input reads as it did. -/
def floorRuleSpec : ChangeSpec := { name := "floorRule", fn := fun _ => fun
  | [d1, d2, d3, d4] => { results := [.lit (.bool true)], args := [d1, d2, d3, d4] }
  | _ => none }
def floorRuleRow : OpenClaim := { program := "ytifgbnbkimcchaa", sum := "dbbcc9686093ff962dc30bb4a44a9cabacc6aaf544f041c055cfc1abca8f071b", func := "staddle/staddlelaw05.FloorRule", spec := "floorRule", inPlace := ["slices.overlaps[int]"], unfollowed := true, recurses := true, apart := false }
def FloorRuleSaid : Prop := floorRuleRow.holds Try.pinned (OpenSpec.ofChange floorRuleSpec)

/-- ITS FALSE NEIGHBOUR: 'it returns false'. Refute it at one input. -/
def floorRuleWrong : ChangeSpec := { name := "floorRule", fn := fun _ => fun
  | [d1, d2, d3, d4] => { results := [.lit (.bool false)], args := [d1, d2, d3, d4] }
  | _ => none }
def FloorRuleWrongFalsely : Prop := floorRuleRow.holds Try.pinned (OpenSpec.ofChange floorRuleWrong)

/-- 'staddlelaw05.FloorSafer': WHATEVER THE INPUT: true; the input reads as it did. -/
def floorSaferSpec : ChangeSpec := { name := "floorSafer", fn := fun _ => fun
  | [d1, d2, d3, d4] => { results := [.lit (.bool true)], args := [d1, d2, d3, d4] }
  | _ => none }
def floorSaferRow : OpenClaim := { program := "ytifgbnbkimcchaa", sum := "dbbcc9686093ff962dc30bb4a44a9cabacc6aaf544f041c055cfc1abca8f071b", func := "staddle/staddlelaw05.FloorSafer", spec := "floorSafer", inPlace := ["slices.overlaps[int]"], unfollowed := true, recurses := true, apart := false }
def FloorSaferSaid : Prop := floorSaferRow.holds Try.pinned (OpenSpec.ofChange floorSaferSpec)

/-- ITS FALSE NEIGHBOUR: 'it returns false'. Refute it at one input. -/
def floorSaferWrong : ChangeSpec := { name := "floorSafer", fn := fun _ => fun
  | [d1, d2, d3, d4] => { results := [.lit (.bool false)], args := [d1, d2, d3, d4] }
  | _ => none }
def FloorSaferWrongFalsely : Prop := floorSaferRow.holds Try.pinned (OpenSpec.ofChange floorSaferWrong)

/-- 'staddlelaw05.FloorPaid': WHATEVER THE INPUT: true; the input reads as it did. -/
def floorPaidSpec : ChangeSpec := { name := "floorPaid", fn := fun _ => fun
  | [d1, d2, d3] => { results := [.lit (.bool true)], args := [d1, d2, d3] }
  | _ => none }
def floorPaidRow : OpenClaim := { program := "ytifgbnbkimcchaa", sum := "dbbcc9686093ff962dc30bb4a44a9cabacc6aaf544f041c055cfc1abca8f071b", func := "staddle/staddlelaw05.FloorPaid", spec := "floorPaid", inPlace := ["slices.overlaps[int]"], unfollowed := true, recurses := true, apart := false }
def FloorPaidSaid : Prop := floorPaidRow.holds Try.pinned (OpenSpec.ofChange floorPaidSpec)

/-- ITS FALSE NEIGHBOUR: 'it returns false'. Refute it at one input. -/
def floorPaidWrong : ChangeSpec := { name := "floorPaid", fn := fun _ => fun
  | [d1, d2, d3] => { results := [.lit (.bool false)], args := [d1, d2, d3] }
  | _ => none }
def FloorPaidWrongFalsely : Prop := floorPaidRow.holds Try.pinned (OpenSpec.ofChange floorPaidWrong)

/-- 'staddlelaw05.FloorTried': WHATEVER THE INPUT: true; the input reads as it did. -/
def floorTriedSpec : ChangeSpec := { name := "floorTried", fn := fun _ => fun
  | [d1, d2] => { results := [.lit (.bool true)], args := [d1, d2] }
  | _ => none }
def floorTriedRow : OpenClaim := { program := "ytifgbnbkimcchaa", sum := "dbbcc9686093ff962dc30bb4a44a9cabacc6aaf544f041c055cfc1abca8f071b", func := "staddle/staddlelaw05.FloorTried", spec := "floorTried", inPlace := ["slices.overlaps[int]"], unfollowed := true, recurses := true, apart := false }
def FloorTriedSaid : Prop := floorTriedRow.holds Try.pinned (OpenSpec.ofChange floorTriedSpec)

/-- ITS FALSE NEIGHBOUR: 'it returns false'. Refute it at one input. -/
def floorTriedWrong : ChangeSpec := { name := "floorTried", fn := fun _ => fun
  | [d1, d2] => { results := [.lit (.bool false)], args := [d1, d2] }
  | _ => none }
def FloorTriedWrongFalsely : Prop := floorTriedRow.holds Try.pinned (OpenSpec.ofChange floorTriedWrong)

/- THE SECOND FORM. 'bulk': how many values and letters a reading holds, each counted each time it is reached (what is shared counts as often as it is met; a slice's spare places count too). A statement '..UptoSaid' is the law's where the arguments, and the package variables that the reading takes, are together of bulk at most 1048576: NARROWER than '..Said'. Prove '..Said' where nothing that the law and all that it calls make is longer than what came in: it says more and counts as full. Else prove '..UptoSaid'. A law counts once. -/
mutual
def uptoBulk {H : Type} : DataW H → Nat
  | .lit (.string bytes) => bytes.length + 1
  | .lit _ => 1
  | .nil => 1
  | .ptr d => uptoBulk d + 1
  | .slice elems spare => uptoBulkAll elems + uptoBulkAll spare + 1
  | .agg parts => uptoBulkAll parts + 1
  | .iface _ d => uptoBulk d + 1
  | .map entries => uptoBulkEntries entries + 1
  | .held _ => 1
def uptoBulkAll {H : Type} : List (DataW H) → Nat
  | [] => 0
  | d :: r => uptoBulk d + uptoBulkAll r
def uptoBulkEntries {H : Type} : List (Lit × DataW H) → Nat
  | [] => 0
  | x :: r => uptoBulkEntry x + uptoBulkEntries r
def uptoBulkEntry {H : Type} : Lit × DataW H → Nat
  | (.string bytes, d) => bytes.length + uptoBulk d + 1
  | (_, d) => uptoBulk d + 1
 end
def uptoSmall : (H : Type) → List (DataW H) → Bool := fun _ ds => decide (uptoBulkAll ds ≤ 1048576)
def OpenSpec.upto (s : _root_.Go.ChangeSpec) : _root_.Go.OpenSpec := { _root_.Go.OpenSpec.ofChange s with cond := some uptoSmall }

/-- 'staddlelaw05.FloorPays', WHERE WHAT IT READS IS OF BULK AT MOST 1048576: true; the input reads as it did. -/
def floorPaysUptoRow : OpenClaim := { program := "ytifgbnbkimcchaa", sum := "dbbcc9686093ff962dc30bb4a44a9cabacc6aaf544f041c055cfc1abca8f071b", func := "staddle/staddlelaw05.FloorPays", spec := "floorPays", unfollowed := true, recurses := true, apart := false, narrowed := true }
def FloorPaysUptoSaid : Prop := floorPaysUptoRow.holds Try.pinned (OpenSpec.upto floorPaysSpec)

/-- 'staddlelaw05.FloorSafe', WHERE WHAT IT READS IS OF BULK AT MOST 1048576: true; the input reads as it did. -/
def floorSafeUptoRow : OpenClaim := { program := "ytifgbnbkimcchaa", sum := "dbbcc9686093ff962dc30bb4a44a9cabacc6aaf544f041c055cfc1abca8f071b", func := "staddle/staddlelaw05.FloorSafe", spec := "floorSafe", unfollowed := true, recurses := true, apart := false, narrowed := true }
def FloorSafeUptoSaid : Prop := floorSafeUptoRow.holds Try.pinned (OpenSpec.upto floorSafeSpec)

/-- 'staddlelaw05.FloorChecks', WHERE WHAT IT READS IS OF BULK AT MOST 1048576: true; the input reads as it did. -/
def floorChecksUptoRow : OpenClaim := { program := "ytifgbnbkimcchaa", sum := "dbbcc9686093ff962dc30bb4a44a9cabacc6aaf544f041c055cfc1abca8f071b", func := "staddle/staddlelaw05.FloorChecks", spec := "floorChecks", unfollowed := true, recurses := true, apart := false, narrowed := true }
def FloorChecksUptoSaid : Prop := floorChecksUptoRow.holds Try.pinned (OpenSpec.upto floorChecksSpec)

/-- 'staddlelaw05.FloorOrders', WHERE WHAT IT READS IS OF BULK AT MOST 1048576: true; the input reads as it did. -/
def floorOrdersUptoRow : OpenClaim := { program := "ytifgbnbkimcchaa", sum := "dbbcc9686093ff962dc30bb4a44a9cabacc6aaf544f041c055cfc1abca8f071b", func := "staddle/staddlelaw05.FloorOrders", spec := "floorOrders", unfollowed := true, recurses := true, apart := false, narrowed := true }
def FloorOrdersUptoSaid : Prop := floorOrdersUptoRow.holds Try.pinned (OpenSpec.upto floorOrdersSpec)

/-- 'staddlelaw05.FloorNamed', WHERE WHAT IT READS IS OF BULK AT MOST 1048576: true; the input reads as it did. -/
def floorNamedUptoRow : OpenClaim := { program := "ytifgbnbkimcchaa", sum := "dbbcc9686093ff962dc30bb4a44a9cabacc6aaf544f041c055cfc1abca8f071b", func := "staddle/staddlelaw05.FloorNamed", spec := "floorNamed", inPlace := ["slices.overlaps[int]"], unfollowed := true, recurses := true, apart := false, narrowed := true }
def FloorNamedUptoSaid : Prop := floorNamedUptoRow.holds Try.pinned (OpenSpec.upto floorNamedSpec)

/-- 'staddlelaw05.FloorCounted', WHERE WHAT IT READS IS OF BULK AT MOST 1048576: true; the input reads as it did. -/
def floorCountedUptoRow : OpenClaim := { program := "ytifgbnbkimcchaa", sum := "dbbcc9686093ff962dc30bb4a44a9cabacc6aaf544f041c055cfc1abca8f071b", func := "staddle/staddlelaw05.FloorCounted", spec := "floorCounted", inPlace := ["slices.overlaps[int]"], unfollowed := true, recurses := true, apart := false, narrowed := true }
def FloorCountedUptoSaid : Prop := floorCountedUptoRow.holds Try.pinned (OpenSpec.upto floorCountedSpec)

/-- 'staddlelaw05.FloorRule', WHERE WHAT IT READS IS OF BULK AT MOST 1048576: true; the input reads as it did. -/
def floorRuleUptoRow : OpenClaim := { program := "ytifgbnbkimcchaa", sum := "dbbcc9686093ff962dc30bb4a44a9cabacc6aaf544f041c055cfc1abca8f071b", func := "staddle/staddlelaw05.FloorRule", spec := "floorRule", inPlace := ["slices.overlaps[int]"], unfollowed := true, recurses := true, apart := false, narrowed := true }
def FloorRuleUptoSaid : Prop := floorRuleUptoRow.holds Try.pinned (OpenSpec.upto floorRuleSpec)

/-- 'staddlelaw05.FloorSafer', WHERE WHAT IT READS IS OF BULK AT MOST 1048576: true; the input reads as it did. -/
def floorSaferUptoRow : OpenClaim := { program := "ytifgbnbkimcchaa", sum := "dbbcc9686093ff962dc30bb4a44a9cabacc6aaf544f041c055cfc1abca8f071b", func := "staddle/staddlelaw05.FloorSafer", spec := "floorSafer", inPlace := ["slices.overlaps[int]"], unfollowed := true, recurses := true, apart := false, narrowed := true }
def FloorSaferUptoSaid : Prop := floorSaferUptoRow.holds Try.pinned (OpenSpec.upto floorSaferSpec)

/-- 'staddlelaw05.FloorPaid', WHERE WHAT IT READS IS OF BULK AT MOST 1048576: true; the input reads as it did. -/
def floorPaidUptoRow : OpenClaim := { program := "ytifgbnbkimcchaa", sum := "dbbcc9686093ff962dc30bb4a44a9cabacc6aaf544f041c055cfc1abca8f071b", func := "staddle/staddlelaw05.FloorPaid", spec := "floorPaid", inPlace := ["slices.overlaps[int]"], unfollowed := true, recurses := true, apart := false, narrowed := true }
def FloorPaidUptoSaid : Prop := floorPaidUptoRow.holds Try.pinned (OpenSpec.upto floorPaidSpec)

/-- 'staddlelaw05.FloorTried', WHERE WHAT IT READS IS OF BULK AT MOST 1048576: true; the input reads as it did. -/
def floorTriedUptoRow : OpenClaim := { program := "ytifgbnbkimcchaa", sum := "dbbcc9686093ff962dc30bb4a44a9cabacc6aaf544f041c055cfc1abca8f071b", func := "staddle/staddlelaw05.FloorTried", spec := "floorTried", inPlace := ["slices.overlaps[int]"], unfollowed := true, recurses := true, apart := false, narrowed := true }
def FloorTriedUptoSaid : Prop := floorTriedUptoRow.holds Try.pinned (OpenSpec.upto floorTriedSpec)

end Rows
end Go.Proofs.Ytifgbnbkimcchaa
