/-
  No cell of these rows narrows 'for every input' (looked for: loops, veiled, ifaces, maps, wideKeys, modest, calm, conditions, laid).
  DERIVED. THE GIVEN ROWS OF THIS SEAT. 3 by the template 'for every input the law returns true; each argument reads behind the call as it read before'; 0 by the template 'total and deterministic' (their statements: YtifgbnbkimcchaaGreatTotals.lean).
  GIVEN WITH THE SEED: the statements are not yours to turn. If you find one false, say at which input.
  Laid BY PROGRAM, IN A SANDBOX (cutbox-rows.mjs): the forced cells as the released guide's own fill.sh prints them over the translation de0b219bfd8584af… (all of the seat's roots in one cut). By AI agents, Wed Nov 11 2026. No macro, syntax, notation, axiom, sorry.
-/
import Derived.Test.YtifgbnbkimcchaaGreatChecked
import GoSem.Claim
import GoSem.ClaimJoined
import GoSem.ClaimMapViews
import Derived.JoinedTies
import Derived.KernelRfl
namespace Go.Proofs.YtifgbnbkimcchaaGreat
/- THE CELL 'sum', in the pinned program and in every row, IS THE sha256 OF THE DUMP (.gsa) THAT YtifgbnbkimcchaaGreatProg.lean LOADS. Nothing in Lean hashes anything: it is a label: what it is worth is what the hold of that sum in a sandbox is worth. -/
noncomputable def Tryz.pinned : Pinned := { name := "ytifgbnbkimcchaagreat", sum := "de0b219bfd8584afa1c9524518ffb268a8cd4a98381da360953033bc31b60aeb", checked := Tryz.checked }
namespace Rows
def none {H : Type} : Left H := { results := [], args := [] }

/-- 'staddlelaw05.FloorMost': WHATEVER THE INPUT: true; the input reads as it did. -/
def floorMostSpec : ChangeSpec := { name := "floorMost", fn := fun _ => fun
  | [d1, d2] => { results := [.lit (.bool true)], args := [d1, d2] }
  | _ => none }
def floorMostRow : OpenClaim := { program := "ytifgbnbkimcchaagreat", sum := "de0b219bfd8584afa1c9524518ffb268a8cd4a98381da360953033bc31b60aeb", func := "staddle/staddlelaw05.FloorMost", spec := "floorMost", unfollowed := true, recurses := true, apart := false }
def FloorMostSaid : Prop := floorMostRow.holds Tryz.pinned (OpenSpec.ofChange floorMostSpec)

/-- ITS FALSE NEIGHBOUR: 'it returns false'. Refute it at one input. -/
def floorMostWrong : ChangeSpec := { name := "floorMost", fn := fun _ => fun
  | [d1, d2] => { results := [.lit (.bool false)], args := [d1, d2] }
  | _ => none }
def FloorMostWrongFalsely : Prop := floorMostRow.holds Tryz.pinned (OpenSpec.ofChange floorMostWrong)

/-- 'staddlelaw05.FloorSmall': WHATEVER THE INPUT: true; the input reads as it did. -/
def floorSmallSpec : ChangeSpec := { name := "floorSmall", fn := fun _ => fun
  | [] => { results := [.lit (.bool true)], args := [] }
  | _ => none }
def floorSmallRow : OpenClaim := { program := "ytifgbnbkimcchaagreat", sum := "de0b219bfd8584afa1c9524518ffb268a8cd4a98381da360953033bc31b60aeb", func := "staddle/staddlelaw05.FloorSmall", spec := "floorSmall", unfollowed := true, recurses := true, apart := false }
def FloorSmallSaid : Prop := floorSmallRow.holds Tryz.pinned (OpenSpec.ofChange floorSmallSpec)

/-- ITS FALSE NEIGHBOUR: 'it returns false'. Refute it at one input. -/
def floorSmallWrong : ChangeSpec := { name := "floorSmall", fn := fun _ => fun
  | [] => { results := [.lit (.bool false)], args := [] }
  | _ => none }
def FloorSmallWrongFalsely : Prop := floorSmallRow.holds Tryz.pinned (OpenSpec.ofChange floorSmallWrong)

/-- 'staddlelaw05.FloorBears': WHATEVER THE INPUT: true; the input reads as it did. -/
def floorBearsSpec : ChangeSpec := { name := "floorBears", fn := fun _ => fun
  | [d1, d2] => { results := [.lit (.bool true)], args := [d1, d2] }
  | _ => none }
def floorBearsRow : OpenClaim := { program := "ytifgbnbkimcchaagreat", sum := "de0b219bfd8584afa1c9524518ffb268a8cd4a98381da360953033bc31b60aeb", func := "staddle/staddlelaw05.FloorBears", spec := "floorBears", inPlace := ["slices.overlaps[int]"], unfollowed := true, recurses := true, apart := false }
def FloorBearsSaid : Prop := floorBearsRow.holds Tryz.pinned (OpenSpec.ofChange floorBearsSpec)

/-- ITS FALSE NEIGHBOUR: 'it returns false'. Refute it at one input. -/
def floorBearsWrong : ChangeSpec := { name := "floorBears", fn := fun _ => fun
  | [d1, d2] => { results := [.lit (.bool false)], args := [d1, d2] }
  | _ => none }
def FloorBearsWrongFalsely : Prop := floorBearsRow.holds Tryz.pinned (OpenSpec.ofChange floorBearsWrong)

/- THE SECOND FORM. 'bulk': how many values and letters a reading holds, each counted each time it is reached (what is shared counts as often as it is met; a slice's spare places count too). A statement '..UptoSaid' is the law's where the arguments, and the package variables that the reading takes, are together of bulk at most 1048576: NARROWER than '..Said'. Prove '..Said' where nothing that the law and all that it calls make is longer than what came in: it says more and counts as full. Else prove '..UptoSaid'. A law counts once. -/
mutual
def uptoBulk {H : Type} : DataW H → Nat
  | .lit (.string bytes) => bytes.length + 1
  | .lit _ => 1
  | .nil => 1
  | .ptr d => uptoBulk d + 1
  | .slice elems spare => uptoBulkAll elems + uptoBulkAll spare + 1
  | .agg parts => uptoBulkAll parts + 1
  | .iface _ d => uptoBulk d + 1
  | .map entries => uptoBulkEntries entries + 1
  | .held _ => 1
def uptoBulkAll {H : Type} : List (DataW H) → Nat
  | [] => 0
  | d :: r => uptoBulk d + uptoBulkAll r
def uptoBulkEntries {H : Type} : List (Lit × DataW H) → Nat
  | [] => 0
  | x :: r => uptoBulkEntry x + uptoBulkEntries r
def uptoBulkEntry {H : Type} : Lit × DataW H → Nat
  | (.string bytes, d) => bytes.length + uptoBulk d + 1
  | (_, d) => uptoBulk d + 1
 end
def uptoSmall : (H : Type) → List (DataW H) → Bool := fun _ ds => decide (uptoBulkAll ds ≤ 1048576)
def OpenSpec.upto (s : _root_.Go.ChangeSpec) : _root_.Go.OpenSpec := { _root_.Go.OpenSpec.ofChange s with cond := some uptoSmall }

/-- 'staddlelaw05.FloorMost', WHERE WHAT IT READS IS OF BULK AT MOST 1048576: true; the input reads as it did. -/
def floorMostUptoRow : OpenClaim := { program := "ytifgbnbkimcchaagreat", sum := "de0b219bfd8584afa1c9524518ffb268a8cd4a98381da360953033bc31b60aeb", func := "staddle/staddlelaw05.FloorMost", spec := "floorMost", unfollowed := true, recurses := true, apart := false, narrowed := true }
def FloorMostUptoSaid : Prop := floorMostUptoRow.holds Tryz.pinned (OpenSpec.upto floorMostSpec)

/-- 'staddlelaw05.FloorSmall', WHERE WHAT IT READS IS OF BULK AT MOST 1048576: true; the input reads as it did. -/
def floorSmallUptoRow : OpenClaim := { program := "ytifgbnbkimcchaagreat", sum := "de0b219bfd8584afa1c9524518ffb268a8cd4a98381da360953033bc31b60aeb", func := "staddle/staddlelaw05.FloorSmall", spec := "floorSmall", unfollowed := true, recurses := true, apart := false, narrowed := true }
def FloorSmallUptoSaid : Prop := floorSmallUptoRow.holds Tryz.pinned (OpenSpec.upto floorSmallSpec)

/-- 'staddlelaw05.FloorBears', WHERE WHAT IT READS IS OF BULK AT MOST 1048576: true; the input reads as it did. -/
def floorBearsUptoRow : OpenClaim := { program := "ytifgbnbkimcchaagreat", sum := "de0b219bfd8584afa1c9524518ffb268a8cd4a98381da360953033bc31b60aeb", func := "staddle/staddlelaw05.FloorBears", spec := "floorBears", inPlace := ["slices.overlaps[int]"], unfollowed := true, recurses := true, apart := false, narrowed := true }
def FloorBearsUptoSaid : Prop := floorBearsUptoRow.holds Tryz.pinned (OpenSpec.upto floorBearsSpec)

end Rows
end Go.Proofs.YtifgbnbkimcchaaGreat
