/-
  No cell of these rows narrows 'for every input' (looked for: loops, veiled, ifaces, maps, wideKeys, modest, calm, conditions, laid).
  DERIVED. THE GIVEN ROWS OF THIS SEAT. 10 by the template 'for every input the law returns true; each argument reads behind the call as it read before'; 0 by the template 'total and deterministic' (their statements: YtakfkiahhfdjfaaTotals.lean).
  GIVEN WITH THE SEED: the statements are not yours to turn. If you find one false, say at which input.
  Laid BY PROGRAM, IN A SANDBOX (cutbox-rows.mjs): the forced cells as the released guide's own fill.sh prints them over the translation 5391a406c528c146… (all of the seat's roots in one cut). By AI agents, Wed Nov 11 2026. No macro, syntax, notation, axiom, sorry.
-/
import Derived.Test.YtakfkiahhfdjfaaChecked
import GoSem.Claim
import GoSem.ClaimJoined
import GoSem.ClaimMapViews
import Derived.JoinedTies
import Derived.KernelRfl
namespace Go.Proofs.Ytakfkiahhfdjfaa
/- THE CELL 'sum', in the pinned program and in every row, IS THE sha256 OF THE DUMP (.gsa) THAT YtakfkiahhfdjfaaProg.lean LOADS. Nothing in Lean hashes anything: it is a label: what it is worth is what the hold of that sum in a sandbox is worth. -/
noncomputable def Try.pinned : Pinned := { name := "ytakfkiahhfdjfaa", sum := "5391a406c528c1468fa7a2ae12f858358bddde4ccebd216967bc0254fdcde659", checked := Try.checked }
namespace Rows
def none {H : Type} : Left H := { results := [], args := [] }

/-- 'laws.FnExactIsStrong': WHATEVER THE INPUT: true; the input reads as it did. -/
def fnExactIsStrongSpec : ChangeSpec := { name := "fnExactIsStrong", fn := fun _ => fun
  | [d1, d2] => { results := [.lit (.bool true)], args := [d1, d2] }
  | _ => none }
def fnExactIsStrongRow : OpenClaim := { program := "ytakfkiahhfdjfaa", sum := "5391a406c528c1468fa7a2ae12f858358bddde4ccebd216967bc0254fdcde659", func := "loop.example/g01379/laws.FnExactIsStrong", spec := "fnExactIsStrong", unfollowed := true, recurses := true, apart := false }
def FnExactIsStrongSaid : Prop := fnExactIsStrongRow.holds Try.pinned (OpenSpec.ofChange fnExactIsStrongSpec)

/-- ITS FALSE NEIGHBOUR: 'it returns false'. Refute it at one input. -/
def fnExactIsStrongWrong : ChangeSpec := { name := "fnExactIsStrong", fn := fun _ => fun
  | [d1, d2] => { results := [.lit (.bool false)], args := [d1, d2] }
  | _ => none }
def FnExactIsStrongWrongFalsely : Prop := fnExactIsStrongRow.holds Try.pinned (OpenSpec.ofChange fnExactIsStrongWrong)

/-- 'laws.FnExactAreOrthogonal': WHATEVER THE INPUT: true; the input reads as it did. -/
def fnExactAreOrthogonalSpec : ChangeSpec := { name := "fnExactAreOrthogonal", fn := fun _ => fun
  | [d1, d2, d3] => { results := [.lit (.bool true)], args := [d1, d2, d3] }
  | _ => none }
def fnExactAreOrthogonalRow : OpenClaim := { program := "ytakfkiahhfdjfaa", sum := "5391a406c528c1468fa7a2ae12f858358bddde4ccebd216967bc0254fdcde659", func := "loop.example/g01379/laws.FnExactAreOrthogonal", spec := "fnExactAreOrthogonal", unfollowed := true, recurses := true, apart := false }
def FnExactAreOrthogonalSaid : Prop := fnExactAreOrthogonalRow.holds Try.pinned (OpenSpec.ofChange fnExactAreOrthogonalSpec)

/-- ITS FALSE NEIGHBOUR: 'it returns false'. Refute it at one input. -/
def fnExactAreOrthogonalWrong : ChangeSpec := { name := "fnExactAreOrthogonal", fn := fun _ => fun
  | [d1, d2, d3] => { results := [.lit (.bool false)], args := [d1, d2, d3] }
  | _ => none }
def FnExactAreOrthogonalWrongFalsely : Prop := fnExactAreOrthogonalRow.holds Try.pinned (OpenSpec.ofChange fnExactAreOrthogonalWrong)

/-- 'laws.FnExactReorderRounds': WHATEVER THE INPUT: true; the input reads as it did. -/
def fnExactReorderRoundsSpec : ChangeSpec := { name := "fnExactReorderRounds", fn := fun _ => fun
  | [d1, d2] => { results := [.lit (.bool true)], args := [d1, d2] }
  | _ => none }
def fnExactReorderRoundsRow : OpenClaim := { program := "ytakfkiahhfdjfaa", sum := "5391a406c528c1468fa7a2ae12f858358bddde4ccebd216967bc0254fdcde659", func := "loop.example/g01379/laws.FnExactReorderRounds", spec := "fnExactReorderRounds", unfollowed := true, recurses := true, apart := false }
def FnExactReorderRoundsSaid : Prop := fnExactReorderRoundsRow.holds Try.pinned (OpenSpec.ofChange fnExactReorderRoundsSpec)

/-- ITS FALSE NEIGHBOUR: 'it returns false'. Refute it at one input. -/
def fnExactReorderRoundsWrong : ChangeSpec := { name := "fnExactReorderRounds", fn := fun _ => fun
  | [d1, d2] => { results := [.lit (.bool false)], args := [d1, d2] }
  | _ => none }
def FnExactReorderRoundsWrongFalsely : Prop := fnExactReorderRoundsRow.holds Try.pinned (OpenSpec.ofChange fnExactReorderRoundsWrong)

/-- 'laws.FnExactIsAdder': WHATEVER THE INPUT: true; the input reads as it did. -/
def fnExactIsAdderSpec : ChangeSpec := { name := "fnExactIsAdder", fn := fun _ => fun
  | [d1, d2, d3] => { results := [.lit (.bool true)], args := [d1, d2, d3] }
  | _ => none }
def fnExactIsAdderRow : OpenClaim := { program := "ytakfkiahhfdjfaa", sum := "5391a406c528c1468fa7a2ae12f858358bddde4ccebd216967bc0254fdcde659", func := "loop.example/g01379/laws.FnExactIsAdder", spec := "fnExactIsAdder", unfollowed := true, recurses := true, apart := false }
def FnExactIsAdderSaid : Prop := fnExactIsAdderRow.holds Try.pinned (OpenSpec.ofChange fnExactIsAdderSpec)

/-- ITS FALSE NEIGHBOUR: 'it returns false'. Refute it at one input. -/
def fnExactIsAdderWrong : ChangeSpec := { name := "fnExactIsAdder", fn := fun _ => fun
  | [d1, d2, d3] => { results := [.lit (.bool false)], args := [d1, d2, d3] }
  | _ => none }
def FnExactIsAdderWrongFalsely : Prop := fnExactIsAdderRow.holds Try.pinned (OpenSpec.ofChange fnExactIsAdderWrong)

/-- 'laws.FnExactRenumberSquare': WHATEVER THE INPUT: true; the input reads as it did. -/
def fnExactRenumberSquareSpec : ChangeSpec := { name := "fnExactRenumberSquare", fn := fun _ => fun
  | [d1, d2] => { results := [.lit (.bool true)], args := [d1, d2] }
  | _ => none }
def fnExactRenumberSquareRow : OpenClaim := { program := "ytakfkiahhfdjfaa", sum := "5391a406c528c1468fa7a2ae12f858358bddde4ccebd216967bc0254fdcde659", func := "loop.example/g01379/laws.FnExactRenumberSquare", spec := "fnExactRenumberSquare", unfollowed := true, recurses := true, apart := false }
def FnExactRenumberSquareSaid : Prop := fnExactRenumberSquareRow.holds Try.pinned (OpenSpec.ofChange fnExactRenumberSquareSpec)

/-- ITS FALSE NEIGHBOUR: 'it returns false'. Refute it at one input. -/
def fnExactRenumberSquareWrong : ChangeSpec := { name := "fnExactRenumberSquare", fn := fun _ => fun
  | [d1, d2] => { results := [.lit (.bool false)], args := [d1, d2] }
  | _ => none }
def FnExactRenumberSquareWrongFalsely : Prop := fnExactRenumberSquareRow.holds Try.pinned (OpenSpec.ofChange fnExactRenumberSquareWrong)

/-- 'laws.FnExactRenumberTeams': WHATEVER THE INPUT: true; the input reads as it did. -/
def fnExactRenumberTeamsSpec : ChangeSpec := { name := "fnExactRenumberTeams", fn := fun _ => fun
  | [d1, d2] => { results := [.lit (.bool true)], args := [d1, d2] }
  | _ => none }
def fnExactRenumberTeamsRow : OpenClaim := { program := "ytakfkiahhfdjfaa", sum := "5391a406c528c1468fa7a2ae12f858358bddde4ccebd216967bc0254fdcde659", func := "loop.example/g01379/laws.FnExactRenumberTeams", spec := "fnExactRenumberTeams", unfollowed := true, recurses := true, apart := false }
def FnExactRenumberTeamsSaid : Prop := fnExactRenumberTeamsRow.holds Try.pinned (OpenSpec.ofChange fnExactRenumberTeamsSpec)

/-- ITS FALSE NEIGHBOUR: 'it returns false'. Refute it at one input. -/
def fnExactRenumberTeamsWrong : ChangeSpec := { name := "fnExactRenumberTeams", fn := fun _ => fun
  | [d1, d2] => { results := [.lit (.bool false)], args := [d1, d2] }
  | _ => none }
def FnExactRenumberTeamsWrongFalsely : Prop := fnExactRenumberTeamsRow.holds Try.pinned (OpenSpec.ofChange fnExactRenumberTeamsWrong)

/-- 'laws.FnExactIsSkew': WHATEVER THE INPUT: true; the input reads as it did. -/
def fnExactIsSkewSpec : ChangeSpec := { name := "fnExactIsSkew", fn := fun _ => fun
  | [d1, d2] => { results := [.lit (.bool true)], args := [d1, d2] }
  | _ => none }
def fnExactIsSkewRow : OpenClaim := { program := "ytakfkiahhfdjfaa", sum := "5391a406c528c1468fa7a2ae12f858358bddde4ccebd216967bc0254fdcde659", func := "loop.example/g01379/laws.FnExactIsSkew", spec := "fnExactIsSkew", unfollowed := true, recurses := true, apart := false }
def FnExactIsSkewSaid : Prop := fnExactIsSkewRow.holds Try.pinned (OpenSpec.ofChange fnExactIsSkewSpec)

/-- ITS FALSE NEIGHBOUR: 'it returns false'. Refute it at one input. -/
def fnExactIsSkewWrong : ChangeSpec := { name := "fnExactIsSkew", fn := fun _ => fun
  | [d1, d2] => { results := [.lit (.bool false)], args := [d1, d2] }
  | _ => none }
def FnExactIsSkewWrongFalsely : Prop := fnExactIsSkewRow.holds Try.pinned (OpenSpec.ofChange fnExactIsSkewWrong)

/-- 'laws.FnExactStrongAdder': WHATEVER THE INPUT: true; the input reads as it did. -/
def fnExactStrongAdderSpec : ChangeSpec := { name := "fnExactStrongAdder", fn := fun _ => fun
  | [d1, d2] => { results := [.lit (.bool true)], args := [d1, d2] }
  | _ => none }
def fnExactStrongAdderRow : OpenClaim := { program := "ytakfkiahhfdjfaa", sum := "5391a406c528c1468fa7a2ae12f858358bddde4ccebd216967bc0254fdcde659", func := "loop.example/g01379/laws.FnExactStrongAdder", spec := "fnExactStrongAdder", unfollowed := true, recurses := true, apart := false }
def FnExactStrongAdderSaid : Prop := fnExactStrongAdderRow.holds Try.pinned (OpenSpec.ofChange fnExactStrongAdderSpec)

/-- ITS FALSE NEIGHBOUR: 'it returns false'. Refute it at one input. -/
def fnExactStrongAdderWrong : ChangeSpec := { name := "fnExactStrongAdder", fn := fun _ => fun
  | [d1, d2] => { results := [.lit (.bool false)], args := [d1, d2] }
  | _ => none }
def FnExactStrongAdderWrongFalsely : Prop := fnExactStrongAdderRow.holds Try.pinned (OpenSpec.ofChange fnExactStrongAdderWrong)

/-- 'laws.FnExactFirstAdder': WHATEVER THE INPUT: true; the input reads as it did. -/
def fnExactFirstAdderSpec : ChangeSpec := { name := "fnExactFirstAdder", fn := fun _ => fun
  | [d1, d2] => { results := [.lit (.bool true)], args := [d1, d2] }
  | _ => none }
def fnExactFirstAdderRow : OpenClaim := { program := "ytakfkiahhfdjfaa", sum := "5391a406c528c1468fa7a2ae12f858358bddde4ccebd216967bc0254fdcde659", func := "loop.example/g01379/laws.FnExactFirstAdder", spec := "fnExactFirstAdder", unfollowed := true, recurses := true, apart := false }
def FnExactFirstAdderSaid : Prop := fnExactFirstAdderRow.holds Try.pinned (OpenSpec.ofChange fnExactFirstAdderSpec)

/-- ITS FALSE NEIGHBOUR: 'it returns false'. Refute it at one input. -/
def fnExactFirstAdderWrong : ChangeSpec := { name := "fnExactFirstAdder", fn := fun _ => fun
  | [d1, d2] => { results := [.lit (.bool false)], args := [d1, d2] }
  | _ => none }
def FnExactFirstAdderWrongFalsely : Prop := fnExactFirstAdderRow.holds Try.pinned (OpenSpec.ofChange fnExactFirstAdderWrong)

/-- 'laws.FnExactSquareOfStarter': WHATEVER THE INPUT: true; the input reads as it did. -/
def fnExactSquareOfStarterSpec : ChangeSpec := { name := "fnExactSquareOfStarter", fn := fun _ => fun
  | [d1, d2, d3] => { results := [.lit (.bool true)], args := [d1, d2, d3] }
  | _ => none }
def fnExactSquareOfStarterRow : OpenClaim := { program := "ytakfkiahhfdjfaa", sum := "5391a406c528c1468fa7a2ae12f858358bddde4ccebd216967bc0254fdcde659", func := "loop.example/g01379/laws.FnExactSquareOfStarter", spec := "fnExactSquareOfStarter", unfollowed := true, recurses := true, apart := false }
def FnExactSquareOfStarterSaid : Prop := fnExactSquareOfStarterRow.holds Try.pinned (OpenSpec.ofChange fnExactSquareOfStarterSpec)

/-- ITS FALSE NEIGHBOUR: 'it returns false'. Refute it at one input. -/
def fnExactSquareOfStarterWrong : ChangeSpec := { name := "fnExactSquareOfStarter", fn := fun _ => fun
  | [d1, d2, d3] => { results := [.lit (.bool false)], args := [d1, d2, d3] }
  | _ => none }
def FnExactSquareOfStarterWrongFalsely : Prop := fnExactSquareOfStarterRow.holds Try.pinned (OpenSpec.ofChange fnExactSquareOfStarterWrong)

/- THE SECOND FORM. 'bulk': how many values and letters a reading holds, each counted each time it is reached (what is shared counts as often as it is met; a slice's spare places count too). A statement '..UptoSaid' is the law's where the arguments, and the package variables that the reading takes, are together of bulk at most 1048576: NARROWER than '..Said'. Prove '..Said' where nothing that the law and all that it calls make is longer than what came in: it says more and counts as full. Else prove '..UptoSaid'. A law counts once. -/
mutual
def uptoBulk {H : Type} : DataW H → Nat
  | .lit (.string bytes) => bytes.length + 1
  | .lit _ => 1
  | .nil => 1
  | .ptr d => uptoBulk d + 1
  | .slice elems spare => uptoBulkAll elems + uptoBulkAll spare + 1
  | .agg parts => uptoBulkAll parts + 1
  | .iface _ d => uptoBulk d + 1
  | .map entries => uptoBulkEntries entries + 1
  | .held _ => 1
def uptoBulkAll {H : Type} : List (DataW H) → Nat
  | [] => 0
  | d :: r => uptoBulk d + uptoBulkAll r
def uptoBulkEntries {H : Type} : List (Lit × DataW H) → Nat
  | [] => 0
  | x :: r => uptoBulkEntry x + uptoBulkEntries r
def uptoBulkEntry {H : Type} : Lit × DataW H → Nat
  | (.string bytes, d) => bytes.length + uptoBulk d + 1
  | (_, d) => uptoBulk d + 1
 end
def uptoSmall : (H : Type) → List (DataW H) → Bool := fun _ ds => decide (uptoBulkAll ds ≤ 1048576)
def OpenSpec.upto (s : _root_.Go.ChangeSpec) : _root_.Go.OpenSpec := { _root_.Go.OpenSpec.ofChange s with cond := some uptoSmall }

/-- 'laws.FnExactIsStrong', WHERE WHAT IT READS IS OF BULK AT MOST 1048576: true; the input reads as it did. -/
def fnExactIsStrongUptoRow : OpenClaim := { program := "ytakfkiahhfdjfaa", sum := "5391a406c528c1468fa7a2ae12f858358bddde4ccebd216967bc0254fdcde659", func := "loop.example/g01379/laws.FnExactIsStrong", spec := "fnExactIsStrong", unfollowed := true, recurses := true, apart := false, narrowed := true }
def FnExactIsStrongUptoSaid : Prop := fnExactIsStrongUptoRow.holds Try.pinned (OpenSpec.upto fnExactIsStrongSpec)

/-- 'laws.FnExactAreOrthogonal', WHERE WHAT IT READS IS OF BULK AT MOST 1048576: true; the input reads as it did. -/
def fnExactAreOrthogonalUptoRow : OpenClaim := { program := "ytakfkiahhfdjfaa", sum := "5391a406c528c1468fa7a2ae12f858358bddde4ccebd216967bc0254fdcde659", func := "loop.example/g01379/laws.FnExactAreOrthogonal", spec := "fnExactAreOrthogonal", unfollowed := true, recurses := true, apart := false, narrowed := true }
def FnExactAreOrthogonalUptoSaid : Prop := fnExactAreOrthogonalUptoRow.holds Try.pinned (OpenSpec.upto fnExactAreOrthogonalSpec)

/-- 'laws.FnExactReorderRounds', WHERE WHAT IT READS IS OF BULK AT MOST 1048576: true; the input reads as it did. -/
def fnExactReorderRoundsUptoRow : OpenClaim := { program := "ytakfkiahhfdjfaa", sum := "5391a406c528c1468fa7a2ae12f858358bddde4ccebd216967bc0254fdcde659", func := "loop.example/g01379/laws.FnExactReorderRounds", spec := "fnExactReorderRounds", unfollowed := true, recurses := true, apart := false, narrowed := true }
def FnExactReorderRoundsUptoSaid : Prop := fnExactReorderRoundsUptoRow.holds Try.pinned (OpenSpec.upto fnExactReorderRoundsSpec)

/-- 'laws.FnExactIsAdder', WHERE WHAT IT READS IS OF BULK AT MOST 1048576: true; the input reads as it did. -/
def fnExactIsAdderUptoRow : OpenClaim := { program := "ytakfkiahhfdjfaa", sum := "5391a406c528c1468fa7a2ae12f858358bddde4ccebd216967bc0254fdcde659", func := "loop.example/g01379/laws.FnExactIsAdder", spec := "fnExactIsAdder", unfollowed := true, recurses := true, apart := false, narrowed := true }
def FnExactIsAdderUptoSaid : Prop := fnExactIsAdderUptoRow.holds Try.pinned (OpenSpec.upto fnExactIsAdderSpec)

/-- 'laws.FnExactRenumberSquare', WHERE WHAT IT READS IS OF BULK AT MOST 1048576: true; the input reads as it did. -/
def fnExactRenumberSquareUptoRow : OpenClaim := { program := "ytakfkiahhfdjfaa", sum := "5391a406c528c1468fa7a2ae12f858358bddde4ccebd216967bc0254fdcde659", func := "loop.example/g01379/laws.FnExactRenumberSquare", spec := "fnExactRenumberSquare", unfollowed := true, recurses := true, apart := false, narrowed := true }
def FnExactRenumberSquareUptoSaid : Prop := fnExactRenumberSquareUptoRow.holds Try.pinned (OpenSpec.upto fnExactRenumberSquareSpec)

/-- 'laws.FnExactRenumberTeams', WHERE WHAT IT READS IS OF BULK AT MOST 1048576: true; the input reads as it did. -/
def fnExactRenumberTeamsUptoRow : OpenClaim := { program := "ytakfkiahhfdjfaa", sum := "5391a406c528c1468fa7a2ae12f858358bddde4ccebd216967bc0254fdcde659", func := "loop.example/g01379/laws.FnExactRenumberTeams", spec := "fnExactRenumberTeams", unfollowed := true, recurses := true, apart := false, narrowed := true }
def FnExactRenumberTeamsUptoSaid : Prop := fnExactRenumberTeamsUptoRow.holds Try.pinned (OpenSpec.upto fnExactRenumberTeamsSpec)

/-- 'laws.FnExactIsSkew', WHERE WHAT IT READS IS OF BULK AT MOST 1048576: true; the input reads as it did. -/
def fnExactIsSkewUptoRow : OpenClaim := { program := "ytakfkiahhfdjfaa", sum := "5391a406c528c1468fa7a2ae12f858358bddde4ccebd216967bc0254fdcde659", func := "loop.example/g01379/laws.FnExactIsSkew", spec := "fnExactIsSkew", unfollowed := true, recurses := true, apart := false, narrowed := true }
def FnExactIsSkewUptoSaid : Prop := fnExactIsSkewUptoRow.holds Try.pinned (OpenSpec.upto fnExactIsSkewSpec)

/-- 'laws.FnExactStrongAdder', WHERE WHAT IT READS IS OF BULK AT MOST 1048576: true; the input reads as it did. -/
def fnExactStrongAdderUptoRow : OpenClaim := { program := "ytakfkiahhfdjfaa", sum := "5391a406c528c1468fa7a2ae12f858358bddde4ccebd216967bc0254fdcde659", func := "loop.example/g01379/laws.FnExactStrongAdder", spec := "fnExactStrongAdder", unfollowed := true, recurses := true, apart := false, narrowed := true }
def FnExactStrongAdderUptoSaid : Prop := fnExactStrongAdderUptoRow.holds Try.pinned (OpenSpec.upto fnExactStrongAdderSpec)

/-- 'laws.FnExactFirstAdder', WHERE WHAT IT READS IS OF BULK AT MOST 1048576: true; the input reads as it did. -/
def fnExactFirstAdderUptoRow : OpenClaim := { program := "ytakfkiahhfdjfaa", sum := "5391a406c528c1468fa7a2ae12f858358bddde4ccebd216967bc0254fdcde659", func := "loop.example/g01379/laws.FnExactFirstAdder", spec := "fnExactFirstAdder", unfollowed := true, recurses := true, apart := false, narrowed := true }
def FnExactFirstAdderUptoSaid : Prop := fnExactFirstAdderUptoRow.holds Try.pinned (OpenSpec.upto fnExactFirstAdderSpec)

/-- 'laws.FnExactSquareOfStarter', WHERE WHAT IT READS IS OF BULK AT MOST 1048576: true; the input reads as it did. -/
def fnExactSquareOfStarterUptoRow : OpenClaim := { program := "ytakfkiahhfdjfaa", sum := "5391a406c528c1468fa7a2ae12f858358bddde4ccebd216967bc0254fdcde659", func := "loop.example/g01379/laws.FnExactSquareOfStarter", spec := "fnExactSquareOfStarter", unfollowed := true, recurses := true, apart := false, narrowed := true }
def FnExactSquareOfStarterUptoSaid : Prop := fnExactSquareOfStarterUptoRow.holds Try.pinned (OpenSpec.upto fnExactSquareOfStarterSpec)

end Rows
end Go.Proofs.Ytakfkiahhfdjfaa
