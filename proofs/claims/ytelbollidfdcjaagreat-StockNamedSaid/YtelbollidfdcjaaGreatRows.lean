/-
  No cell of these rows narrows 'for every input' (looked for: loops, veiled, ifaces, maps, wideKeys, modest, calm, conditions, laid).
  DERIVED. THE GIVEN ROWS OF THIS SEAT. 14 by the template 'for every input the law returns true; each argument reads behind the call as it read before'; 0 by the template 'total and deterministic' (their statements: YtelbollidfdcjaaGreatTotals.lean).
  GIVEN WITH THE SEED: the statements are not yours to turn. If you find one false, say at which input.
  Laid BY PROGRAM, IN A SANDBOX (cutbox-rows.mjs): the forced cells as the released guide's own fill.sh prints them over the translation d87c5925e9a2a9c5… (all of the seat's roots in one cut). By AI agents, Wed Nov 11 2026. No macro, syntax, notation, axiom, sorry.
-/
import Derived.Test.YtelbollidfdcjaaGreatChecked
import GoSem.Claim
import GoSem.ClaimJoined
import GoSem.ClaimMapViews
import Derived.JoinedTies
import Derived.KernelRfl
namespace Go.Proofs.YtelbollidfdcjaaGreat
/- THE CELL 'sum', in the pinned program and in every row, IS THE sha256 OF THE DUMP (.gsa) THAT YtelbollidfdcjaaGreatProg.lean LOADS. Nothing in Lean hashes anything: it is a label: what it is worth is what the hold of that sum in a sandbox is worth. -/
noncomputable def Tryz.pinned : Pinned := { name := "ytelbollidfdcjaagreat", sum := "d87c5925e9a2a9c55400719a9af0948542e12a6450aae2242f8d6b750c7b9ca8", checked := Tryz.checked }
namespace Rows
def none {H : Type} : Left H := { results := [], args := [] }

/-- 'staddlelaw02.StockWhole': WHATEVER THE INPUT: true; the input reads as it did. -/
def stockWholeSpec : ChangeSpec := { name := "stockWhole", fn := fun _ => fun
  | [d1, d2] => { results := [.lit (.bool true)], args := [d1, d2] }
  | _ => none }
def stockWholeRow : OpenClaim := { program := "ytelbollidfdcjaagreat", sum := "d87c5925e9a2a9c55400719a9af0948542e12a6450aae2242f8d6b750c7b9ca8", func := "staddle/staddlelaw02.StockWhole", spec := "stockWhole", unfollowed := true, recurses := true, apart := false }
def StockWholeSaid : Prop := stockWholeRow.holds Tryz.pinned (OpenSpec.ofChange stockWholeSpec)

/-- ITS FALSE NEIGHBOUR: 'it returns false'. Refute it at one input. -/
def stockWholeWrong : ChangeSpec := { name := "stockWhole", fn := fun _ => fun
  | [d1, d2] => { results := [.lit (.bool false)], args := [d1, d2] }
  | _ => none }
def StockWholeWrongFalsely : Prop := stockWholeRow.holds Tryz.pinned (OpenSpec.ofChange stockWholeWrong)

/-- 'staddlelaw02.StockTimes': WHATEVER THE INPUT: true; the input reads as it did. -/
def stockTimesSpec : ChangeSpec := { name := "stockTimes", fn := fun _ => fun
  | [d1, d2, d3] => { results := [.lit (.bool true)], args := [d1, d2, d3] }
  | _ => none }
def stockTimesRow : OpenClaim := { program := "ytelbollidfdcjaagreat", sum := "d87c5925e9a2a9c55400719a9af0948542e12a6450aae2242f8d6b750c7b9ca8", func := "staddle/staddlelaw02.StockTimes", spec := "stockTimes", unfollowed := true, recurses := true, apart := false }
def StockTimesSaid : Prop := stockTimesRow.holds Tryz.pinned (OpenSpec.ofChange stockTimesSpec)

/-- ITS FALSE NEIGHBOUR: 'it returns false'. Refute it at one input. -/
def stockTimesWrong : ChangeSpec := { name := "stockTimes", fn := fun _ => fun
  | [d1, d2, d3] => { results := [.lit (.bool false)], args := [d1, d2, d3] }
  | _ => none }
def StockTimesWrongFalsely : Prop := stockTimesRow.holds Tryz.pinned (OpenSpec.ofChange stockTimesWrong)

/-- 'staddlelaw02.StockWhen': WHATEVER THE INPUT: true; the input reads as it did. -/
def stockWhenSpec : ChangeSpec := { name := "stockWhen", fn := fun _ => fun
  | [d1, d2, d3] => { results := [.lit (.bool true)], args := [d1, d2, d3] }
  | _ => none }
def stockWhenRow : OpenClaim := { program := "ytelbollidfdcjaagreat", sum := "d87c5925e9a2a9c55400719a9af0948542e12a6450aae2242f8d6b750c7b9ca8", func := "staddle/staddlelaw02.StockWhen", spec := "stockWhen", unfollowed := true, recurses := true, apart := false }
def StockWhenSaid : Prop := stockWhenRow.holds Tryz.pinned (OpenSpec.ofChange stockWhenSpec)

/-- ITS FALSE NEIGHBOUR: 'it returns false'. Refute it at one input. -/
def stockWhenWrong : ChangeSpec := { name := "stockWhen", fn := fun _ => fun
  | [d1, d2, d3] => { results := [.lit (.bool false)], args := [d1, d2, d3] }
  | _ => none }
def StockWhenWrongFalsely : Prop := stockWhenRow.holds Tryz.pinned (OpenSpec.ofChange stockWhenWrong)

/-- 'staddlelaw02.StockAgrees': WHATEVER THE INPUT: true; the input reads as it did. -/
def stockAgreesSpec : ChangeSpec := { name := "stockAgrees", fn := fun _ => fun
  | [d1, d2] => { results := [.lit (.bool true)], args := [d1, d2] }
  | _ => none }
def stockAgreesRow : OpenClaim := { program := "ytelbollidfdcjaagreat", sum := "d87c5925e9a2a9c55400719a9af0948542e12a6450aae2242f8d6b750c7b9ca8", func := "staddle/staddlelaw02.StockAgrees", spec := "stockAgrees", unfollowed := true, recurses := true, apart := false }
def StockAgreesSaid : Prop := stockAgreesRow.holds Tryz.pinned (OpenSpec.ofChange stockAgreesSpec)

/-- ITS FALSE NEIGHBOUR: 'it returns false'. Refute it at one input. -/
def stockAgreesWrong : ChangeSpec := { name := "stockAgrees", fn := fun _ => fun
  | [d1, d2] => { results := [.lit (.bool false)], args := [d1, d2] }
  | _ => none }
def StockAgreesWrongFalsely : Prop := stockAgreesRow.holds Tryz.pinned (OpenSpec.ofChange stockAgreesWrong)

/-- 'staddlelaw02.StockBounds': WHATEVER THE INPUT: true; the input reads as it did. -/
def stockBoundsSpec : ChangeSpec := { name := "stockBounds", fn := fun _ => fun
  | [d1, d2, d3, d4, d5] => { results := [.lit (.bool true)], args := [d1, d2, d3, d4, d5] }
  | _ => none }
def stockBoundsRow : OpenClaim := { program := "ytelbollidfdcjaagreat", sum := "d87c5925e9a2a9c55400719a9af0948542e12a6450aae2242f8d6b750c7b9ca8", func := "staddle/staddlelaw02.StockBounds", spec := "stockBounds", unfollowed := true, recurses := true, apart := false }
def StockBoundsSaid : Prop := stockBoundsRow.holds Tryz.pinned (OpenSpec.ofChange stockBoundsSpec)

/-- ITS FALSE NEIGHBOUR: 'it returns false'. Refute it at one input. -/
def stockBoundsWrong : ChangeSpec := { name := "stockBounds", fn := fun _ => fun
  | [d1, d2, d3, d4, d5] => { results := [.lit (.bool false)], args := [d1, d2, d3, d4, d5] }
  | _ => none }
def StockBoundsWrongFalsely : Prop := stockBoundsRow.holds Tryz.pinned (OpenSpec.ofChange stockBoundsWrong)

/-- 'staddlelaw02.StockMore': WHATEVER THE INPUT: true; the input reads as it did. -/
def stockMoreSpec : ChangeSpec := { name := "stockMore", fn := fun _ => fun
  | [d1, d2, d3, d4] => { results := [.lit (.bool true)], args := [d1, d2, d3, d4] }
  | _ => none }
def stockMoreRow : OpenClaim := { program := "ytelbollidfdcjaagreat", sum := "d87c5925e9a2a9c55400719a9af0948542e12a6450aae2242f8d6b750c7b9ca8", func := "staddle/staddlelaw02.StockMore", spec := "stockMore", unfollowed := true, recurses := true, apart := false }
def StockMoreSaid : Prop := stockMoreRow.holds Tryz.pinned (OpenSpec.ofChange stockMoreSpec)

/-- ITS FALSE NEIGHBOUR: 'it returns false'. Refute it at one input. -/
def stockMoreWrong : ChangeSpec := { name := "stockMore", fn := fun _ => fun
  | [d1, d2, d3, d4] => { results := [.lit (.bool false)], args := [d1, d2, d3, d4] }
  | _ => none }
def StockMoreWrongFalsely : Prop := stockMoreRow.holds Tryz.pinned (OpenSpec.ofChange stockMoreWrong)

/-- 'staddlelaw02.StockProofs': WHATEVER THE INPUT: true; the input reads as it did. -/
def stockProofsSpec : ChangeSpec := { name := "stockProofs", fn := fun _ => fun
  | [d1, d2] => { results := [.lit (.bool true)], args := [d1, d2] }
  | _ => none }
def stockProofsRow : OpenClaim := { program := "ytelbollidfdcjaagreat", sum := "d87c5925e9a2a9c55400719a9af0948542e12a6450aae2242f8d6b750c7b9ca8", func := "staddle/staddlelaw02.StockProofs", spec := "stockProofs", unfollowed := true, recurses := true, apart := false }
def StockProofsSaid : Prop := stockProofsRow.holds Tryz.pinned (OpenSpec.ofChange stockProofsSpec)

/-- ITS FALSE NEIGHBOUR: 'it returns false'. Refute it at one input. -/
def stockProofsWrong : ChangeSpec := { name := "stockProofs", fn := fun _ => fun
  | [d1, d2] => { results := [.lit (.bool false)], args := [d1, d2] }
  | _ => none }
def StockProofsWrongFalsely : Prop := stockProofsRow.holds Tryz.pinned (OpenSpec.ofChange stockProofsWrong)

/-- 'staddlelaw02.StockProved': WHATEVER THE INPUT: true; the input reads as it did. -/
def stockProvedSpec : ChangeSpec := { name := "stockProved", fn := fun _ => fun
  | [d1, d2, d3] => { results := [.lit (.bool true)], args := [d1, d2, d3] }
  | _ => none }
def stockProvedRow : OpenClaim := { program := "ytelbollidfdcjaagreat", sum := "d87c5925e9a2a9c55400719a9af0948542e12a6450aae2242f8d6b750c7b9ca8", func := "staddle/staddlelaw02.StockProved", spec := "stockProved", unfollowed := true, recurses := true, apart := false }
def StockProvedSaid : Prop := stockProvedRow.holds Tryz.pinned (OpenSpec.ofChange stockProvedSpec)

/-- ITS FALSE NEIGHBOUR: 'it returns false'. Refute it at one input. -/
def stockProvedWrong : ChangeSpec := { name := "stockProved", fn := fun _ => fun
  | [d1, d2, d3] => { results := [.lit (.bool false)], args := [d1, d2, d3] }
  | _ => none }
def StockProvedWrongFalsely : Prop := stockProvedRow.holds Tryz.pinned (OpenSpec.ofChange stockProvedWrong)

/-- 'staddlelaw02.StockWrong': WHATEVER THE INPUT: true; the input reads as it did. -/
def stockWrongSpec : ChangeSpec := { name := "stockWrong", fn := fun _ => fun
  | [d1, d2] => { results := [.lit (.bool true)], args := [d1, d2] }
  | _ => none }
def stockWrongRow : OpenClaim := { program := "ytelbollidfdcjaagreat", sum := "d87c5925e9a2a9c55400719a9af0948542e12a6450aae2242f8d6b750c7b9ca8", func := "staddle/staddlelaw02.StockWrong", spec := "stockWrong", unfollowed := true, recurses := true, apart := false }
def StockWrongSaid : Prop := stockWrongRow.holds Tryz.pinned (OpenSpec.ofChange stockWrongSpec)

/-- ITS FALSE NEIGHBOUR: 'it returns false'. Refute it at one input. -/
def stockWrongWrong : ChangeSpec := { name := "stockWrong", fn := fun _ => fun
  | [d1, d2] => { results := [.lit (.bool false)], args := [d1, d2] }
  | _ => none }
def StockWrongWrongFalsely : Prop := stockWrongRow.holds Tryz.pinned (OpenSpec.ofChange stockWrongWrong)

/-- 'staddlelaw02.StockYards': WHATEVER THE INPUT: true; the input reads as it did. -/
def stockYardsSpec : ChangeSpec := { name := "stockYards", fn := fun _ => fun
  | [d1, d2, d3] => { results := [.lit (.bool true)], args := [d1, d2, d3] }
  | _ => none }
def stockYardsRow : OpenClaim := { program := "ytelbollidfdcjaagreat", sum := "d87c5925e9a2a9c55400719a9af0948542e12a6450aae2242f8d6b750c7b9ca8", func := "staddle/staddlelaw02.StockYards", spec := "stockYards", unfollowed := true, recurses := true, apart := false }
def StockYardsSaid : Prop := stockYardsRow.holds Tryz.pinned (OpenSpec.ofChange stockYardsSpec)

/-- ITS FALSE NEIGHBOUR: 'it returns false'. Refute it at one input. -/
def stockYardsWrong : ChangeSpec := { name := "stockYards", fn := fun _ => fun
  | [d1, d2, d3] => { results := [.lit (.bool false)], args := [d1, d2, d3] }
  | _ => none }
def StockYardsWrongFalsely : Prop := stockYardsRow.holds Tryz.pinned (OpenSpec.ofChange stockYardsWrong)

/-- 'staddlelaw02.StockAmounts': WHATEVER THE INPUT: true; the input reads as it did. -/
def stockAmountsSpec : ChangeSpec := { name := "stockAmounts", fn := fun _ => fun
  | [d1, d2] => { results := [.lit (.bool true)], args := [d1, d2] }
  | _ => none }
def stockAmountsRow : OpenClaim := { program := "ytelbollidfdcjaagreat", sum := "d87c5925e9a2a9c55400719a9af0948542e12a6450aae2242f8d6b750c7b9ca8", func := "staddle/staddlelaw02.StockAmounts", spec := "stockAmounts", unfollowed := true, recurses := true, apart := false }
def StockAmountsSaid : Prop := stockAmountsRow.holds Tryz.pinned (OpenSpec.ofChange stockAmountsSpec)

/-- ITS FALSE NEIGHBOUR: 'it returns false'. Refute it at one input. -/
def stockAmountsWrong : ChangeSpec := { name := "stockAmounts", fn := fun _ => fun
  | [d1, d2] => { results := [.lit (.bool false)], args := [d1, d2] }
  | _ => none }
def StockAmountsWrongFalsely : Prop := stockAmountsRow.holds Tryz.pinned (OpenSpec.ofChange stockAmountsWrong)

/-- 'staddlelaw02.StockTold': WHATEVER THE INPUT: true; the input reads as it did. -/
def stockToldSpec : ChangeSpec := { name := "stockTold", fn := fun _ => fun
  | [d1, d2] => { results := [.lit (.bool true)], args := [d1, d2] }
  | _ => none }
def stockToldRow : OpenClaim := { program := "ytelbollidfdcjaagreat", sum := "d87c5925e9a2a9c55400719a9af0948542e12a6450aae2242f8d6b750c7b9ca8", func := "staddle/staddlelaw02.StockTold", spec := "stockTold", unfollowed := true, recurses := true, apart := false }
def StockToldSaid : Prop := stockToldRow.holds Tryz.pinned (OpenSpec.ofChange stockToldSpec)

/-- ITS FALSE NEIGHBOUR: 'it returns false'. Refute it at one input. -/
def stockToldWrong : ChangeSpec := { name := "stockTold", fn := fun _ => fun
  | [d1, d2] => { results := [.lit (.bool false)], args := [d1, d2] }
  | _ => none }
def StockToldWrongFalsely : Prop := stockToldRow.holds Tryz.pinned (OpenSpec.ofChange stockToldWrong)

/-- 'staddlelaw02.StockNamed': WHATEVER THE INPUT: true; the input reads as it did. -/
def stockNamedSpec : ChangeSpec := { name := "stockNamed", fn := fun _ => fun
  | [d1, d2] => { results := [.lit (.bool true)], args := [d1, d2] }
  | _ => none }
def stockNamedRow : OpenClaim := { program := "ytelbollidfdcjaagreat", sum := "d87c5925e9a2a9c55400719a9af0948542e12a6450aae2242f8d6b750c7b9ca8", func := "staddle/staddlelaw02.StockNamed", spec := "stockNamed", inPlace := ["slices.overlaps[int]"], unfollowed := true, recurses := true, apart := false }
def StockNamedSaid : Prop := stockNamedRow.holds Tryz.pinned (OpenSpec.ofChange stockNamedSpec)

/-- ITS FALSE NEIGHBOUR: 'it returns false'. Refute it at one input. -/
def stockNamedWrong : ChangeSpec := { name := "stockNamed", fn := fun _ => fun
  | [d1, d2] => { results := [.lit (.bool false)], args := [d1, d2] }
  | _ => none }
def StockNamedWrongFalsely : Prop := stockNamedRow.holds Tryz.pinned (OpenSpec.ofChange stockNamedWrong)

/-- 'staddlelaw02.StockSmall': WHATEVER THE INPUT: true; the input reads as it did. -/
def stockSmallSpec : ChangeSpec := { name := "stockSmall", fn := fun _ => fun
  | [] => { results := [.lit (.bool true)], args := [] }
  | _ => none }
def stockSmallRow : OpenClaim := { program := "ytelbollidfdcjaagreat", sum := "d87c5925e9a2a9c55400719a9af0948542e12a6450aae2242f8d6b750c7b9ca8", func := "staddle/staddlelaw02.StockSmall", spec := "stockSmall", unfollowed := true, recurses := true, apart := false }
def StockSmallSaid : Prop := stockSmallRow.holds Tryz.pinned (OpenSpec.ofChange stockSmallSpec)

/-- ITS FALSE NEIGHBOUR: 'it returns false'. Refute it at one input. -/
def stockSmallWrong : ChangeSpec := { name := "stockSmall", fn := fun _ => fun
  | [] => { results := [.lit (.bool false)], args := [] }
  | _ => none }
def StockSmallWrongFalsely : Prop := stockSmallRow.holds Tryz.pinned (OpenSpec.ofChange stockSmallWrong)

/- THE SECOND FORM. 'bulk': how many values and letters a reading holds, each counted each time it is reached (what is shared counts as often as it is met; a slice's spare places count too). A statement '..UptoSaid' is the law's where the arguments, and the package variables that the reading takes, are together of bulk at most 1048576: NARROWER than '..Said'. Prove '..Said' where nothing that the law and all that it calls make is longer than what came in: it says more and counts as full. Else prove '..UptoSaid'. A law counts once. -/
mutual
def uptoBulk {H : Type} : DataW H → Nat
  | .lit (.string bytes) => bytes.length + 1
  | .lit _ => 1
  | .nil => 1
  | .ptr d => uptoBulk d + 1
  | .slice elems spare => uptoBulkAll elems + uptoBulkAll spare + 1
  | .agg parts => uptoBulkAll parts + 1
  | .iface _ d => uptoBulk d + 1
  | .map entries => uptoBulkEntries entries + 1
  | .held _ => 1
def uptoBulkAll {H : Type} : List (DataW H) → Nat
  | [] => 0
  | d :: r => uptoBulk d + uptoBulkAll r
def uptoBulkEntries {H : Type} : List (Lit × DataW H) → Nat
  | [] => 0
  | x :: r => uptoBulkEntry x + uptoBulkEntries r
def uptoBulkEntry {H : Type} : Lit × DataW H → Nat
  | (.string bytes, d) => bytes.length + uptoBulk d + 1
  | (_, d) => uptoBulk d + 1
 end
def uptoSmall : (H : Type) → List (DataW H) → Bool := fun _ ds => decide (uptoBulkAll ds ≤ 1048576)
def OpenSpec.upto (s : _root_.Go.ChangeSpec) : _root_.Go.OpenSpec := { _root_.Go.OpenSpec.ofChange s with cond := some uptoSmall }

/-- 'staddlelaw02.StockWhole', WHERE WHAT IT READS IS OF BULK AT MOST 1048576: true; the input reads as it did. -/
def stockWholeUptoRow : OpenClaim := { program := "ytelbollidfdcjaagreat", sum := "d87c5925e9a2a9c55400719a9af0948542e12a6450aae2242f8d6b750c7b9ca8", func := "staddle/staddlelaw02.StockWhole", spec := "stockWhole", unfollowed := true, recurses := true, apart := false, narrowed := true }
def StockWholeUptoSaid : Prop := stockWholeUptoRow.holds Tryz.pinned (OpenSpec.upto stockWholeSpec)

/-- 'staddlelaw02.StockTimes', WHERE WHAT IT READS IS OF BULK AT MOST 1048576: true; the input reads as it did. -/
def stockTimesUptoRow : OpenClaim := { program := "ytelbollidfdcjaagreat", sum := "d87c5925e9a2a9c55400719a9af0948542e12a6450aae2242f8d6b750c7b9ca8", func := "staddle/staddlelaw02.StockTimes", spec := "stockTimes", unfollowed := true, recurses := true, apart := false, narrowed := true }
def StockTimesUptoSaid : Prop := stockTimesUptoRow.holds Tryz.pinned (OpenSpec.upto stockTimesSpec)

/-- 'staddlelaw02.StockWhen', WHERE WHAT IT READS IS OF BULK AT MOST 1048576: true; the input reads as it did. -/
def stockWhenUptoRow : OpenClaim := { program := "ytelbollidfdcjaagreat", sum := "d87c5925e9a2a9c55400719a9af0948542e12a6450aae2242f8d6b750c7b9ca8", func := "staddle/staddlelaw02.StockWhen", spec := "stockWhen", unfollowed := true, recurses := true, apart := false, narrowed := true }
def StockWhenUptoSaid : Prop := stockWhenUptoRow.holds Tryz.pinned (OpenSpec.upto stockWhenSpec)

/-- 'staddlelaw02.StockAgrees', WHERE WHAT IT READS IS OF BULK AT MOST 1048576: true; the input reads as it did. -/
def stockAgreesUptoRow : OpenClaim := { program := "ytelbollidfdcjaagreat", sum := "d87c5925e9a2a9c55400719a9af0948542e12a6450aae2242f8d6b750c7b9ca8", func := "staddle/staddlelaw02.StockAgrees", spec := "stockAgrees", unfollowed := true, recurses := true, apart := false, narrowed := true }
def StockAgreesUptoSaid : Prop := stockAgreesUptoRow.holds Tryz.pinned (OpenSpec.upto stockAgreesSpec)

/-- 'staddlelaw02.StockBounds', WHERE WHAT IT READS IS OF BULK AT MOST 1048576: true; the input reads as it did. -/
def stockBoundsUptoRow : OpenClaim := { program := "ytelbollidfdcjaagreat", sum := "d87c5925e9a2a9c55400719a9af0948542e12a6450aae2242f8d6b750c7b9ca8", func := "staddle/staddlelaw02.StockBounds", spec := "stockBounds", unfollowed := true, recurses := true, apart := false, narrowed := true }
def StockBoundsUptoSaid : Prop := stockBoundsUptoRow.holds Tryz.pinned (OpenSpec.upto stockBoundsSpec)

/-- 'staddlelaw02.StockMore', WHERE WHAT IT READS IS OF BULK AT MOST 1048576: true; the input reads as it did. -/
def stockMoreUptoRow : OpenClaim := { program := "ytelbollidfdcjaagreat", sum := "d87c5925e9a2a9c55400719a9af0948542e12a6450aae2242f8d6b750c7b9ca8", func := "staddle/staddlelaw02.StockMore", spec := "stockMore", unfollowed := true, recurses := true, apart := false, narrowed := true }
def StockMoreUptoSaid : Prop := stockMoreUptoRow.holds Tryz.pinned (OpenSpec.upto stockMoreSpec)

/-- 'staddlelaw02.StockProofs', WHERE WHAT IT READS IS OF BULK AT MOST 1048576: true; the input reads as it did. -/
def stockProofsUptoRow : OpenClaim := { program := "ytelbollidfdcjaagreat", sum := "d87c5925e9a2a9c55400719a9af0948542e12a6450aae2242f8d6b750c7b9ca8", func := "staddle/staddlelaw02.StockProofs", spec := "stockProofs", unfollowed := true, recurses := true, apart := false, narrowed := true }
def StockProofsUptoSaid : Prop := stockProofsUptoRow.holds Tryz.pinned (OpenSpec.upto stockProofsSpec)

/-- 'staddlelaw02.StockProved', WHERE WHAT IT READS IS OF BULK AT MOST 1048576: true; the input reads as it did. -/
def stockProvedUptoRow : OpenClaim := { program := "ytelbollidfdcjaagreat", sum := "d87c5925e9a2a9c55400719a9af0948542e12a6450aae2242f8d6b750c7b9ca8", func := "staddle/staddlelaw02.StockProved", spec := "stockProved", unfollowed := true, recurses := true, apart := false, narrowed := true }
def StockProvedUptoSaid : Prop := stockProvedUptoRow.holds Tryz.pinned (OpenSpec.upto stockProvedSpec)

/-- 'staddlelaw02.StockWrong', WHERE WHAT IT READS IS OF BULK AT MOST 1048576: true; the input reads as it did. -/
def stockWrongUptoRow : OpenClaim := { program := "ytelbollidfdcjaagreat", sum := "d87c5925e9a2a9c55400719a9af0948542e12a6450aae2242f8d6b750c7b9ca8", func := "staddle/staddlelaw02.StockWrong", spec := "stockWrong", unfollowed := true, recurses := true, apart := false, narrowed := true }
def StockWrongUptoSaid : Prop := stockWrongUptoRow.holds Tryz.pinned (OpenSpec.upto stockWrongSpec)

/-- 'staddlelaw02.StockYards', WHERE WHAT IT READS IS OF BULK AT MOST 1048576: true; the input reads as it did. -/
def stockYardsUptoRow : OpenClaim := { program := "ytelbollidfdcjaagreat", sum := "d87c5925e9a2a9c55400719a9af0948542e12a6450aae2242f8d6b750c7b9ca8", func := "staddle/staddlelaw02.StockYards", spec := "stockYards", unfollowed := true, recurses := true, apart := false, narrowed := true }
def StockYardsUptoSaid : Prop := stockYardsUptoRow.holds Tryz.pinned (OpenSpec.upto stockYardsSpec)

/-- 'staddlelaw02.StockAmounts', WHERE WHAT IT READS IS OF BULK AT MOST 1048576: true; the input reads as it did. -/
def stockAmountsUptoRow : OpenClaim := { program := "ytelbollidfdcjaagreat", sum := "d87c5925e9a2a9c55400719a9af0948542e12a6450aae2242f8d6b750c7b9ca8", func := "staddle/staddlelaw02.StockAmounts", spec := "stockAmounts", unfollowed := true, recurses := true, apart := false, narrowed := true }
def StockAmountsUptoSaid : Prop := stockAmountsUptoRow.holds Tryz.pinned (OpenSpec.upto stockAmountsSpec)

/-- 'staddlelaw02.StockTold', WHERE WHAT IT READS IS OF BULK AT MOST 1048576: true; the input reads as it did. -/
def stockToldUptoRow : OpenClaim := { program := "ytelbollidfdcjaagreat", sum := "d87c5925e9a2a9c55400719a9af0948542e12a6450aae2242f8d6b750c7b9ca8", func := "staddle/staddlelaw02.StockTold", spec := "stockTold", unfollowed := true, recurses := true, apart := false, narrowed := true }
def StockToldUptoSaid : Prop := stockToldUptoRow.holds Tryz.pinned (OpenSpec.upto stockToldSpec)

/-- 'staddlelaw02.StockNamed', WHERE WHAT IT READS IS OF BULK AT MOST 1048576: true; the input reads as it did. -/
def stockNamedUptoRow : OpenClaim := { program := "ytelbollidfdcjaagreat", sum := "d87c5925e9a2a9c55400719a9af0948542e12a6450aae2242f8d6b750c7b9ca8", func := "staddle/staddlelaw02.StockNamed", spec := "stockNamed", inPlace := ["slices.overlaps[int]"], unfollowed := true, recurses := true, apart := false, narrowed := true }
def StockNamedUptoSaid : Prop := stockNamedUptoRow.holds Tryz.pinned (OpenSpec.upto stockNamedSpec)

/-- 'staddlelaw02.StockSmall', WHERE WHAT IT READS IS OF BULK AT MOST 1048576: true; the input reads as it did. -/
def stockSmallUptoRow : OpenClaim := { program := "ytelbollidfdcjaagreat", sum := "d87c5925e9a2a9c55400719a9af0948542e12a6450aae2242f8d6b750c7b9ca8", func := "staddle/staddlelaw02.StockSmall", spec := "stockSmall", unfollowed := true, recurses := true, apart := false, narrowed := true }
def StockSmallUptoSaid : Prop := stockSmallUptoRow.holds Tryz.pinned (OpenSpec.upto stockSmallSpec)

end Rows
end Go.Proofs.YtelbollidfdcjaaGreat
