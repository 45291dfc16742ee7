/-
  No cell of these rows narrows 'for every input' (looked for: loops, veiled, ifaces, maps, wideKeys, modest, calm, conditions, laid).
  DERIVED. THE GIVEN ROWS OF THIS SEAT. 3 by the template 'for every input the law returns true; each argument reads behind the call as it read before'; 0 by the template 'total and deterministic' (their statements: YtmmcenjknimhbaaGreatTotals.lean).
  GIVEN WITH THE SEED: the statements are not yours to turn. If you find one false, say at which input.
  Laid BY PROGRAM, IN A SANDBOX (cutbox-rows.mjs): the forced cells as the released guide's own fill.sh prints them over the translation 4f600eabcd40faed… (all of the seat's roots in one cut). By AI agents, Wed Nov 11 2026. No macro, syntax, notation, axiom, sorry.
-/
import Derived.Test.YtmmcenjknimhbaaGreatChecked
import GoSem.Claim
import GoSem.ClaimJoined
import GoSem.ClaimMapViews
import Derived.JoinedTies
import Derived.KernelRfl
namespace Go.Proofs.YtmmcenjknimhbaaGreat
/- THE CELL 'sum', in the pinned program and in every row, IS THE sha256 OF THE DUMP (.gsa) THAT YtmmcenjknimhbaaGreatProg.lean LOADS. Nothing in Lean hashes anything: it is a label: what it is worth is what the hold of that sum in a sandbox is worth. -/
noncomputable def Tryz.pinned : Pinned := { name := "ytmmcenjknimhbaagreat", sum := "4f600eabcd40faed503b07186f400cdfb825851cdb952718700af9f3c0724b62", checked := Tryz.checked }
namespace Rows
def none {H : Type} : Left H := { results := [], args := [] }

/-- 'staddlelaw05.FloorStocked': WHATEVER THE INPUT: true; the input reads as it did. -/
def floorStockedSpec : ChangeSpec := { name := "floorStocked", fn := fun _ => fun
  | [d1, d2] => { results := [.lit (.bool true)], args := [d1, d2] }
  | _ => none }
def floorStockedRow : OpenClaim := { program := "ytmmcenjknimhbaagreat", sum := "4f600eabcd40faed503b07186f400cdfb825851cdb952718700af9f3c0724b62", func := "staddle/staddlelaw05.FloorStocked", spec := "floorStocked", inPlace := ["slices.overlaps[int]"], unfollowed := true, recurses := true, plainKeys := false, apart := false }
def FloorStockedSaid : Prop := floorStockedRow.holds Tryz.pinned (OpenSpec.ofChange floorStockedSpec)

/-- ITS FALSE NEIGHBOUR: 'it returns false'. Refute it at one input. -/
def floorStockedWrong : ChangeSpec := { name := "floorStocked", fn := fun _ => fun
  | [d1, d2] => { results := [.lit (.bool false)], args := [d1, d2] }
  | _ => none }
def FloorStockedWrongFalsely : Prop := floorStockedRow.holds Tryz.pinned (OpenSpec.ofChange floorStockedWrong)

/-- 'staddlelaw08.TurnFloor': WHATEVER THE INPUT: true; the input reads as it did. -/
def turnFloorSpec : ChangeSpec := { name := "turnFloor", fn := fun _ => fun
  | [d1, d2, d3] => { results := [.lit (.bool true)], args := [d1, d2, d3] }
  | _ => none }
def turnFloorRow : OpenClaim := { program := "ytmmcenjknimhbaagreat", sum := "4f600eabcd40faed503b07186f400cdfb825851cdb952718700af9f3c0724b62", func := "staddle/staddlelaw08.TurnFloor", spec := "turnFloor", inPlace := ["slices.overlaps[int]"], unfollowed := true, recurses := true, plainKeys := false, apart := false }
def TurnFloorSaid : Prop := turnFloorRow.holds Tryz.pinned (OpenSpec.ofChange turnFloorSpec)

/-- ITS FALSE NEIGHBOUR: 'it returns false'. Refute it at one input. -/
def turnFloorWrong : ChangeSpec := { name := "turnFloor", fn := fun _ => fun
  | [d1, d2, d3] => { results := [.lit (.bool false)], args := [d1, d2, d3] }
  | _ => none }
def TurnFloorWrongFalsely : Prop := turnFloorRow.holds Tryz.pinned (OpenSpec.ofChange turnFloorWrong)

/-- 'staddlelaw08.TurnStock': WHATEVER THE INPUT: true; the input reads as it did. -/
def turnStockSpec : ChangeSpec := { name := "turnStock", fn := fun _ => fun
  | [d1, d2] => { results := [.lit (.bool true)], args := [d1, d2] }
  | _ => none }
def turnStockRow : OpenClaim := { program := "ytmmcenjknimhbaagreat", sum := "4f600eabcd40faed503b07186f400cdfb825851cdb952718700af9f3c0724b62", func := "staddle/staddlelaw08.TurnStock", spec := "turnStock", inPlace := ["slices.overlaps[int]"], unfollowed := true, recurses := true, plainKeys := false, apart := false }
def TurnStockSaid : Prop := turnStockRow.holds Tryz.pinned (OpenSpec.ofChange turnStockSpec)

/-- ITS FALSE NEIGHBOUR: 'it returns false'. Refute it at one input. -/
def turnStockWrong : ChangeSpec := { name := "turnStock", fn := fun _ => fun
  | [d1, d2] => { results := [.lit (.bool false)], args := [d1, d2] }
  | _ => none }
def TurnStockWrongFalsely : Prop := turnStockRow.holds Tryz.pinned (OpenSpec.ofChange turnStockWrong)

/- THE SECOND FORM. 'bulk': how many values and letters a reading holds, each counted each time it is reached (what is shared counts as often as it is met; a slice's spare places count too). A statement '..UptoSaid' is the law's where the arguments, and the package variables that the reading takes, are together of bulk at most 1048576: NARROWER than '..Said'. Prove '..Said' where nothing that the law and all that it calls make is longer than what came in: it says more and counts as full. Else prove '..UptoSaid'. A law counts once. -/
mutual
def uptoBulk {H : Type} : DataW H → Nat
  | .lit (.string bytes) => bytes.length + 1
  | .lit _ => 1
  | .nil => 1
  | .ptr d => uptoBulk d + 1
  | .slice elems spare => uptoBulkAll elems + uptoBulkAll spare + 1
  | .agg parts => uptoBulkAll parts + 1
  | .iface _ d => uptoBulk d + 1
  | .map entries => uptoBulkEntries entries + 1
  | .held _ => 1
def uptoBulkAll {H : Type} : List (DataW H) → Nat
  | [] => 0
  | d :: r => uptoBulk d + uptoBulkAll r
def uptoBulkEntries {H : Type} : List (Lit × DataW H) → Nat
  | [] => 0
  | x :: r => uptoBulkEntry x + uptoBulkEntries r
def uptoBulkEntry {H : Type} : Lit × DataW H → Nat
  | (.string bytes, d) => bytes.length + uptoBulk d + 1
  | (_, d) => uptoBulk d + 1
 end
def uptoSmall : (H : Type) → List (DataW H) → Bool := fun _ ds => decide (uptoBulkAll ds ≤ 1048576)
def OpenSpec.upto (s : _root_.Go.ChangeSpec) : _root_.Go.OpenSpec := { _root_.Go.OpenSpec.ofChange s with cond := some uptoSmall }

/-- 'staddlelaw05.FloorStocked', WHERE WHAT IT READS IS OF BULK AT MOST 1048576: true; the input reads as it did. -/
def floorStockedUptoRow : OpenClaim := { program := "ytmmcenjknimhbaagreat", sum := "4f600eabcd40faed503b07186f400cdfb825851cdb952718700af9f3c0724b62", func := "staddle/staddlelaw05.FloorStocked", spec := "floorStocked", inPlace := ["slices.overlaps[int]"], unfollowed := true, recurses := true, plainKeys := false, apart := false, narrowed := true }
def FloorStockedUptoSaid : Prop := floorStockedUptoRow.holds Tryz.pinned (OpenSpec.upto floorStockedSpec)

/-- 'staddlelaw08.TurnFloor', WHERE WHAT IT READS IS OF BULK AT MOST 1048576: true; the input reads as it did. -/
def turnFloorUptoRow : OpenClaim := { program := "ytmmcenjknimhbaagreat", sum := "4f600eabcd40faed503b07186f400cdfb825851cdb952718700af9f3c0724b62", func := "staddle/staddlelaw08.TurnFloor", spec := "turnFloor", inPlace := ["slices.overlaps[int]"], unfollowed := true, recurses := true, plainKeys := false, apart := false, narrowed := true }
def TurnFloorUptoSaid : Prop := turnFloorUptoRow.holds Tryz.pinned (OpenSpec.upto turnFloorSpec)

/-- 'staddlelaw08.TurnStock', WHERE WHAT IT READS IS OF BULK AT MOST 1048576: true; the input reads as it did. -/
def turnStockUptoRow : OpenClaim := { program := "ytmmcenjknimhbaagreat", sum := "4f600eabcd40faed503b07186f400cdfb825851cdb952718700af9f3c0724b62", func := "staddle/staddlelaw08.TurnStock", spec := "turnStock", inPlace := ["slices.overlaps[int]"], unfollowed := true, recurses := true, plainKeys := false, apart := false, narrowed := true }
def TurnStockUptoSaid : Prop := turnStockUptoRow.holds Tryz.pinned (OpenSpec.upto turnStockSpec)

end Rows
end Go.Proofs.YtmmcenjknimhbaaGreat
