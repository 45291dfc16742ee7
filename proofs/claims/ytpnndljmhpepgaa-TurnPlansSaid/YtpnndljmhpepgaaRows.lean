/-
  No cell of these rows narrows 'for every input' (looked for: loops, veiled, ifaces, maps, wideKeys, modest, calm, conditions, laid).
  DERIVED. THE GIVEN ROWS OF THIS SEAT. 10 by the template 'for every input the law returns true; each argument reads behind the call as it read before'; 0 by the template 'total and deterministic' (their statements: YtpnndljmhpepgaaTotals.lean).
  GIVEN WITH THE SEED: the statements are not yours to turn. If you find one false, say at which input.
  Laid BY PROGRAM, IN A SANDBOX (cutbox-rows.mjs): the forced cells as the released guide's own fill.sh prints them over the translation 5293413bd3822373… (all of the seat's roots in one cut). By AI agents, Wed Nov 11 2026. No macro, syntax, notation, axiom, sorry.
-/
import Derived.Test.YtpnndljmhpepgaaChecked
import GoSem.Claim
import GoSem.ClaimJoined
import GoSem.ClaimMapViews
import Derived.JoinedTies
import Derived.KernelRfl
namespace Go.Proofs.Ytpnndljmhpepgaa
/- THE CELL 'sum', in the pinned program and in every row, IS THE sha256 OF THE DUMP (.gsa) THAT YtpnndljmhpepgaaProg.lean LOADS. Nothing in Lean hashes anything: it is a label: what it is worth is what the hold of that sum in a sandbox is worth. -/
noncomputable def Try.pinned : Pinned := { name := "ytpnndljmhpepgaa", sum := "5293413bd3822373427ab47fe8986b403b85eb1c363dd442deac866ca26140a0", checked := Try.checked }
namespace Rows
def none {H : Type} : Left H := { results := [], args := [] }

/-- 'staddlelaw08.TurnFewest': WHATEVER THE INPUT: true; the input reads as it did. -/
def turnFewestSpec : ChangeSpec := { name := "turnFewest", fn := fun _ => fun
  | [d] => { results := [.lit (.bool true)], args := [d] }
  | _ => none }
def turnFewestRow : OpenClaim := { program := "ytpnndljmhpepgaa", sum := "5293413bd3822373427ab47fe8986b403b85eb1c363dd442deac866ca26140a0", func := "staddle/staddlelaw08.TurnFewest", spec := "turnFewest", unfollowed := true, recurses := true, plainKeys := false, apart := false }
def TurnFewestSaid : Prop := turnFewestRow.holds Try.pinned (OpenSpec.ofChange turnFewestSpec)

/-- ITS FALSE NEIGHBOUR: 'it returns false'. Refute it at one input. -/
def turnFewestWrong : ChangeSpec := { name := "turnFewest", fn := fun _ => fun
  | [d] => { results := [.lit (.bool false)], args := [d] }
  | _ => none }
def TurnFewestWrongFalsely : Prop := turnFewestRow.holds Try.pinned (OpenSpec.ofChange turnFewestWrong)

/-- 'staddlelaw08.TurnPlans': WHATEVER THE INPUT: true; the input reads as it did. -/
def turnPlansSpec : ChangeSpec := { name := "turnPlans", fn := fun _ => fun
  | [d1, d2] => { results := [.lit (.bool true)], args := [d1, d2] }
  | _ => none }
def turnPlansRow : OpenClaim := { program := "ytpnndljmhpepgaa", sum := "5293413bd3822373427ab47fe8986b403b85eb1c363dd442deac866ca26140a0", func := "staddle/staddlelaw08.TurnPlans", spec := "turnPlans", unfollowed := true, recurses := true, plainKeys := false, apart := false }
def TurnPlansSaid : Prop := turnPlansRow.holds Try.pinned (OpenSpec.ofChange turnPlansSpec)

/-- ITS FALSE NEIGHBOUR: 'it returns false'. Refute it at one input. -/
def turnPlansWrong : ChangeSpec := { name := "turnPlans", fn := fun _ => fun
  | [d1, d2] => { results := [.lit (.bool false)], args := [d1, d2] }
  | _ => none }
def TurnPlansWrongFalsely : Prop := turnPlansRow.holds Try.pinned (OpenSpec.ofChange turnPlansWrong)

/-- 'staddlelaw08.TurnChecks': WHATEVER THE INPUT: true; the input reads as it did. -/
def turnChecksSpec : ChangeSpec := { name := "turnChecks", fn := fun _ => fun
  | [d1, d2, d3, d4] => { results := [.lit (.bool true)], args := [d1, d2, d3, d4] }
  | _ => none }
def turnChecksRow : OpenClaim := { program := "ytpnndljmhpepgaa", sum := "5293413bd3822373427ab47fe8986b403b85eb1c363dd442deac866ca26140a0", func := "staddle/staddlelaw08.TurnChecks", spec := "turnChecks", unfollowed := true, recurses := true, plainKeys := false, apart := false }
def TurnChecksSaid : Prop := turnChecksRow.holds Try.pinned (OpenSpec.ofChange turnChecksSpec)

/-- ITS FALSE NEIGHBOUR: 'it returns false'. Refute it at one input. -/
def turnChecksWrong : ChangeSpec := { name := "turnChecks", fn := fun _ => fun
  | [d1, d2, d3, d4] => { results := [.lit (.bool false)], args := [d1, d2, d3, d4] }
  | _ => none }
def TurnChecksWrongFalsely : Prop := turnChecksRow.holds Try.pinned (OpenSpec.ofChange turnChecksWrong)

/-- 'staddlelaw08.TurnLight': WHATEVER THE INPUT: true; the input reads as it did. -/
def turnLightSpec : ChangeSpec := { name := "turnLight", fn := fun _ => fun
  | [d1, d2] => { results := [.lit (.bool true)], args := [d1, d2] }
  | _ => none }
def turnLightRow : OpenClaim := { program := "ytpnndljmhpepgaa", sum := "5293413bd3822373427ab47fe8986b403b85eb1c363dd442deac866ca26140a0", func := "staddle/staddlelaw08.TurnLight", spec := "turnLight", inPlace := ["slices.overlaps[int]"], unfollowed := true, recurses := true, plainKeys := false, apart := false }
def TurnLightSaid : Prop := turnLightRow.holds Try.pinned (OpenSpec.ofChange turnLightSpec)

/-- ITS FALSE NEIGHBOUR: 'it returns false'. Refute it at one input. -/
def turnLightWrong : ChangeSpec := { name := "turnLight", fn := fun _ => fun
  | [d1, d2] => { results := [.lit (.bool false)], args := [d1, d2] }
  | _ => none }
def TurnLightWrongFalsely : Prop := turnLightRow.holds Try.pinned (OpenSpec.ofChange turnLightWrong)

/-- 'staddlelaw08.TurnNamed': WHATEVER THE INPUT: true; the input reads as it did. -/
def turnNamedSpec : ChangeSpec := { name := "turnNamed", fn := fun _ => fun
  | [d1, d2] => { results := [.lit (.bool true)], args := [d1, d2] }
  | _ => none }
def turnNamedRow : OpenClaim := { program := "ytpnndljmhpepgaa", sum := "5293413bd3822373427ab47fe8986b403b85eb1c363dd442deac866ca26140a0", func := "staddle/staddlelaw08.TurnNamed", spec := "turnNamed", inPlace := ["slices.overlaps[int]"], unfollowed := true, recurses := true, plainKeys := false, apart := false }
def TurnNamedSaid : Prop := turnNamedRow.holds Try.pinned (OpenSpec.ofChange turnNamedSpec)

/-- ITS FALSE NEIGHBOUR: 'it returns false'. Refute it at one input. -/
def turnNamedWrong : ChangeSpec := { name := "turnNamed", fn := fun _ => fun
  | [d1, d2] => { results := [.lit (.bool false)], args := [d1, d2] }
  | _ => none }
def TurnNamedWrongFalsely : Prop := turnNamedRow.holds Try.pinned (OpenSpec.ofChange turnNamedWrong)

/-- 'staddlelaw08.TurnBack': WHATEVER THE INPUT: true; the input reads as it did. -/
def turnBackSpec : ChangeSpec := { name := "turnBack", fn := fun _ => fun
  | [d1, d2] => { results := [.lit (.bool true)], args := [d1, d2] }
  | _ => none }
def turnBackRow : OpenClaim := { program := "ytpnndljmhpepgaa", sum := "5293413bd3822373427ab47fe8986b403b85eb1c363dd442deac866ca26140a0", func := "staddle/staddlelaw08.TurnBack", spec := "turnBack", inPlace := ["slices.overlaps[int]"], unfollowed := true, recurses := true, plainKeys := false, apart := false }
def TurnBackSaid : Prop := turnBackRow.holds Try.pinned (OpenSpec.ofChange turnBackSpec)

/-- ITS FALSE NEIGHBOUR: 'it returns false'. Refute it at one input. -/
def turnBackWrong : ChangeSpec := { name := "turnBack", fn := fun _ => fun
  | [d1, d2] => { results := [.lit (.bool false)], args := [d1, d2] }
  | _ => none }
def TurnBackWrongFalsely : Prop := turnBackRow.holds Try.pinned (OpenSpec.ofChange turnBackWrong)

/-- 'staddlelaw08.TurnMore': WHATEVER THE INPUT: true; the input reads as it did. -/
def turnMoreSpec : ChangeSpec := { name := "turnMore", fn := fun _ => fun
  | [d1, d2, d3] => { results := [.lit (.bool true)], args := [d1, d2, d3] }
  | _ => none }
def turnMoreRow : OpenClaim := { program := "ytpnndljmhpepgaa", sum := "5293413bd3822373427ab47fe8986b403b85eb1c363dd442deac866ca26140a0", func := "staddle/staddlelaw08.TurnMore", spec := "turnMore", inPlace := ["slices.overlaps[int]"], unfollowed := true, recurses := true, plainKeys := false, apart := false }
def TurnMoreSaid : Prop := turnMoreRow.holds Try.pinned (OpenSpec.ofChange turnMoreSpec)

/-- ITS FALSE NEIGHBOUR: 'it returns false'. Refute it at one input. -/
def turnMoreWrong : ChangeSpec := { name := "turnMore", fn := fun _ => fun
  | [d1, d2, d3] => { results := [.lit (.bool false)], args := [d1, d2, d3] }
  | _ => none }
def TurnMoreWrongFalsely : Prop := turnMoreRow.holds Try.pinned (OpenSpec.ofChange turnMoreWrong)

/-- 'staddlelaw08.TurnBest': WHATEVER THE INPUT: true; the input reads as it did. -/
def turnBestSpec : ChangeSpec := { name := "turnBest", fn := fun _ => fun
  | [d1, d2, d3] => { results := [.lit (.bool true)], args := [d1, d2, d3] }
  | _ => none }
def turnBestRow : OpenClaim := { program := "ytpnndljmhpepgaa", sum := "5293413bd3822373427ab47fe8986b403b85eb1c363dd442deac866ca26140a0", func := "staddle/staddlelaw08.TurnBest", spec := "turnBest", inPlace := ["slices.overlaps[int]"], unfollowed := true, recurses := true, plainKeys := false, apart := false }
def TurnBestSaid : Prop := turnBestRow.holds Try.pinned (OpenSpec.ofChange turnBestSpec)

/-- ITS FALSE NEIGHBOUR: 'it returns false'. Refute it at one input. -/
def turnBestWrong : ChangeSpec := { name := "turnBest", fn := fun _ => fun
  | [d1, d2, d3] => { results := [.lit (.bool false)], args := [d1, d2, d3] }
  | _ => none }
def TurnBestWrongFalsely : Prop := turnBestRow.holds Try.pinned (OpenSpec.ofChange turnBestWrong)

/-- 'staddlelaw08.TurnGangs': WHATEVER THE INPUT: true; the input reads as it did. -/
def turnGangsSpec : ChangeSpec := { name := "turnGangs", fn := fun _ => fun
  | [d] => { results := [.lit (.bool true)], args := [d] }
  | _ => none }
def turnGangsRow : OpenClaim := { program := "ytpnndljmhpepgaa", sum := "5293413bd3822373427ab47fe8986b403b85eb1c363dd442deac866ca26140a0", func := "staddle/staddlelaw08.TurnGangs", spec := "turnGangs", inPlace := ["slices.overlaps[int]"], unfollowed := true, recurses := true, plainKeys := false, apart := false }
def TurnGangsSaid : Prop := turnGangsRow.holds Try.pinned (OpenSpec.ofChange turnGangsSpec)

/-- ITS FALSE NEIGHBOUR: 'it returns false'. Refute it at one input. -/
def turnGangsWrong : ChangeSpec := { name := "turnGangs", fn := fun _ => fun
  | [d] => { results := [.lit (.bool false)], args := [d] }
  | _ => none }
def TurnGangsWrongFalsely : Prop := turnGangsRow.holds Try.pinned (OpenSpec.ofChange turnGangsWrong)

/-- 'staddlelaw08.TurnRinged': WHATEVER THE INPUT: true; the input reads as it did. -/
def turnRingedSpec : ChangeSpec := { name := "turnRinged", fn := fun _ => fun
  | [d] => { results := [.lit (.bool true)], args := [d] }
  | _ => none }
def turnRingedRow : OpenClaim := { program := "ytpnndljmhpepgaa", sum := "5293413bd3822373427ab47fe8986b403b85eb1c363dd442deac866ca26140a0", func := "staddle/staddlelaw08.TurnRinged", spec := "turnRinged", inPlace := ["slices.overlaps[int]"], unfollowed := true, recurses := true, plainKeys := false, apart := false }
def TurnRingedSaid : Prop := turnRingedRow.holds Try.pinned (OpenSpec.ofChange turnRingedSpec)

/-- ITS FALSE NEIGHBOUR: 'it returns false'. Refute it at one input. -/
def turnRingedWrong : ChangeSpec := { name := "turnRinged", fn := fun _ => fun
  | [d] => { results := [.lit (.bool false)], args := [d] }
  | _ => none }
def TurnRingedWrongFalsely : Prop := turnRingedRow.holds Try.pinned (OpenSpec.ofChange turnRingedWrong)

/- THE SECOND FORM. 'bulk': how many values and letters a reading holds, each counted each time it is reached (what is shared counts as often as it is met; a slice's spare places count too). A statement '..UptoSaid' is the law's where the arguments, and the package variables that the reading takes, are together of bulk at most 1048576: NARROWER than '..Said'. Prove '..Said' where nothing that the law and all that it calls make is longer than what came in: it says more and counts as full. Else prove '..UptoSaid'. A law counts once. -/
mutual
def uptoBulk {H : Type} : DataW H → Nat
  | .lit (.string bytes) => bytes.length + 1
  | .lit _ => 1
  | .nil => 1
  | .ptr d => uptoBulk d + 1
  | .slice elems spare => uptoBulkAll elems + uptoBulkAll spare + 1
  | .agg parts => uptoBulkAll parts + 1
  | .iface _ d => uptoBulk d + 1
  | .map entries => uptoBulkEntries entries + 1
  | .held _ => 1
def uptoBulkAll {H : Type} : List (DataW H) → Nat
  | [] => 0
  | d :: r => uptoBulk d + uptoBulkAll r
def uptoBulkEntries {H : Type} : List (Lit × DataW H) → Nat
  | [] => 0
  | x :: r => uptoBulkEntry x + uptoBulkEntries r
def uptoBulkEntry {H : Type} : Lit × DataW H → Nat
  | (.string bytes, d) => bytes.length + uptoBulk d + 1
  | (_, d) => uptoBulk d + 1
 end
def uptoSmall : (H : Type) → List (DataW H) → Bool := fun _ ds => decide (uptoBulkAll ds ≤ 1048576)
def OpenSpec.upto (s : _root_.Go.ChangeSpec) : _root_.Go.OpenSpec := { _root_.Go.OpenSpec.ofChange s with cond := some uptoSmall }

/-- 'staddlelaw08.TurnFewest', WHERE WHAT IT READS IS OF BULK AT MOST 1048576: true; the input reads as it did. -/
def turnFewestUptoRow : OpenClaim := { program := "ytpnndljmhpepgaa", sum := "5293413bd3822373427ab47fe8986b403b85eb1c363dd442deac866ca26140a0", func := "staddle/staddlelaw08.TurnFewest", spec := "turnFewest", unfollowed := true, recurses := true, plainKeys := false, apart := false, narrowed := true }
def TurnFewestUptoSaid : Prop := turnFewestUptoRow.holds Try.pinned (OpenSpec.upto turnFewestSpec)

/-- 'staddlelaw08.TurnPlans', WHERE WHAT IT READS IS OF BULK AT MOST 1048576: true; the input reads as it did. -/
def turnPlansUptoRow : OpenClaim := { program := "ytpnndljmhpepgaa", sum := "5293413bd3822373427ab47fe8986b403b85eb1c363dd442deac866ca26140a0", func := "staddle/staddlelaw08.TurnPlans", spec := "turnPlans", unfollowed := true, recurses := true, plainKeys := false, apart := false, narrowed := true }
def TurnPlansUptoSaid : Prop := turnPlansUptoRow.holds Try.pinned (OpenSpec.upto turnPlansSpec)

/-- 'staddlelaw08.TurnChecks', WHERE WHAT IT READS IS OF BULK AT MOST 1048576: true; the input reads as it did. -/
def turnChecksUptoRow : OpenClaim := { program := "ytpnndljmhpepgaa", sum := "5293413bd3822373427ab47fe8986b403b85eb1c363dd442deac866ca26140a0", func := "staddle/staddlelaw08.TurnChecks", spec := "turnChecks", unfollowed := true, recurses := true, plainKeys := false, apart := false, narrowed := true }
def TurnChecksUptoSaid : Prop := turnChecksUptoRow.holds Try.pinned (OpenSpec.upto turnChecksSpec)

/-- 'staddlelaw08.TurnLight', WHERE WHAT IT READS IS OF BULK AT MOST 1048576: true; the input reads as it did. -/
def turnLightUptoRow : OpenClaim := { program := "ytpnndljmhpepgaa", sum := "5293413bd3822373427ab47fe8986b403b85eb1c363dd442deac866ca26140a0", func := "staddle/staddlelaw08.TurnLight", spec := "turnLight", inPlace := ["slices.overlaps[int]"], unfollowed := true, recurses := true, plainKeys := false, apart := false, narrowed := true }
def TurnLightUptoSaid : Prop := turnLightUptoRow.holds Try.pinned (OpenSpec.upto turnLightSpec)

/-- 'staddlelaw08.TurnNamed', WHERE WHAT IT READS IS OF BULK AT MOST 1048576: true; the input reads as it did. -/
def turnNamedUptoRow : OpenClaim := { program := "ytpnndljmhpepgaa", sum := "5293413bd3822373427ab47fe8986b403b85eb1c363dd442deac866ca26140a0", func := "staddle/staddlelaw08.TurnNamed", spec := "turnNamed", inPlace := ["slices.overlaps[int]"], unfollowed := true, recurses := true, plainKeys := false, apart := false, narrowed := true }
def TurnNamedUptoSaid : Prop := turnNamedUptoRow.holds Try.pinned (OpenSpec.upto turnNamedSpec)

/-- 'staddlelaw08.TurnBack', WHERE WHAT IT READS IS OF BULK AT MOST 1048576: true; the input reads as it did. -/
def turnBackUptoRow : OpenClaim := { program := "ytpnndljmhpepgaa", sum := "5293413bd3822373427ab47fe8986b403b85eb1c363dd442deac866ca26140a0", func := "staddle/staddlelaw08.TurnBack", spec := "turnBack", inPlace := ["slices.overlaps[int]"], unfollowed := true, recurses := true, plainKeys := false, apart := false, narrowed := true }
def TurnBackUptoSaid : Prop := turnBackUptoRow.holds Try.pinned (OpenSpec.upto turnBackSpec)

/-- 'staddlelaw08.TurnMore', WHERE WHAT IT READS IS OF BULK AT MOST 1048576: true; the input reads as it did. -/
def turnMoreUptoRow : OpenClaim := { program := "ytpnndljmhpepgaa", sum := "5293413bd3822373427ab47fe8986b403b85eb1c363dd442deac866ca26140a0", func := "staddle/staddlelaw08.TurnMore", spec := "turnMore", inPlace := ["slices.overlaps[int]"], unfollowed := true, recurses := true, plainKeys := false, apart := false, narrowed := true }
def TurnMoreUptoSaid : Prop := turnMoreUptoRow.holds Try.pinned (OpenSpec.upto turnMoreSpec)

/-- 'staddlelaw08.TurnBest', WHERE WHAT IT READS IS OF BULK AT MOST 1048576: true; the input reads as it did. -/
def turnBestUptoRow : OpenClaim := { program := "ytpnndljmhpepgaa", sum := "5293413bd3822373427ab47fe8986b403b85eb1c363dd442deac866ca26140a0", func := "staddle/staddlelaw08.TurnBest", spec := "turnBest", inPlace := ["slices.overlaps[int]"], unfollowed := true, recurses := true, plainKeys := false, apart := false, narrowed := true }
def TurnBestUptoSaid : Prop := turnBestUptoRow.holds Try.pinned (OpenSpec.upto turnBestSpec)

/-- 'staddlelaw08.TurnGangs', WHERE WHAT IT READS IS OF BULK AT MOST 1048576: true; the input reads as it did. -/
def turnGangsUptoRow : OpenClaim := { program := "ytpnndljmhpepgaa", sum := "5293413bd3822373427ab47fe8986b403b85eb1c363dd442deac866ca26140a0", func := "staddle/staddlelaw08.TurnGangs", spec := "turnGangs", inPlace := ["slices.overlaps[int]"], unfollowed := true, recurses := true, plainKeys := false, apart := false, narrowed := true }
def TurnGangsUptoSaid : Prop := turnGangsUptoRow.holds Try.pinned (OpenSpec.upto turnGangsSpec)

/-- 'staddlelaw08.TurnRinged', WHERE WHAT IT READS IS OF BULK AT MOST 1048576: true; the input reads as it did. -/
def turnRingedUptoRow : OpenClaim := { program := "ytpnndljmhpepgaa", sum := "5293413bd3822373427ab47fe8986b403b85eb1c363dd442deac866ca26140a0", func := "staddle/staddlelaw08.TurnRinged", spec := "turnRinged", inPlace := ["slices.overlaps[int]"], unfollowed := true, recurses := true, plainKeys := false, apart := false, narrowed := true }
def TurnRingedUptoSaid : Prop := turnRingedUptoRow.holds Try.pinned (OpenSpec.upto turnRingedSpec)

end Rows
end Go.Proofs.Ytpnndljmhpepgaa
