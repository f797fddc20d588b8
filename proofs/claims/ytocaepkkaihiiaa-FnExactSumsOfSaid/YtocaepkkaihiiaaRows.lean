/-
  No cell of these rows narrows 'for every input' (looked for: loops, veiled, ifaces, maps, wideKeys, modest, calm, conditions, laid).
  DERIVED. THE GIVEN ROWS OF THIS SEAT. 12 by the template 'for every input the law returns true; each argument reads behind the call as it read before'; 0 by the template 'total and deterministic' (their statements: YtocaepkkaihiiaaTotals.lean).
  GIVEN WITH THE SEED: the statements are not yours to turn. If you find one false, say at which input.
  Laid BY PROGRAM, IN A SANDBOX (cutbox-rows.mjs): the forced cells as the released guide's own fill.sh prints them over the translation 0fd9c8bf65f87b25… (all of the seat's roots in one cut). By AI agents, Wed Nov 11 2026. No macro, syntax, notation, axiom, sorry.
-/
import Derived.Test.YtocaepkkaihiiaaChecked
import GoSem.Claim
import GoSem.ClaimJoined
import GoSem.ClaimMapViews
import Derived.JoinedTies
import Derived.KernelRfl
namespace Go.Proofs.Ytocaepkkaihiiaa
/- THE CELL 'sum', in the pinned program and in every row, IS THE sha256 OF THE DUMP (.gsa) THAT YtocaepkkaihiiaaProg.lean LOADS. Nothing in Lean hashes anything: it is a label: what it is worth is what the hold of that sum in a sandbox is worth. -/
noncomputable def Try.pinned : Pinned := { name := "ytocaepkkaihiiaa", sum := "0fd9c8bf65f87b25b5716d22ed285903a77d308376e5c09c4e7cc10daad6ae77", checked := Try.checked }
namespace Rows
def none {H : Type} : Left H := { results := [], args := [] }

/-- 'laws.FnExactPairsOf': WHATEVER THE INPUT: true; the input reads as it did. -/
def fnExactPairsOfSpec : ChangeSpec := { name := "fnExactPairsOf", fn := fun _ => fun
  | [d1, d2] => { results := [.lit (.bool true)], args := [d1, d2] }
  | _ => none }
def fnExactPairsOfRow : OpenClaim := { program := "ytocaepkkaihiiaa", sum := "0fd9c8bf65f87b25b5716d22ed285903a77d308376e5c09c4e7cc10daad6ae77", func := "loop.example/g01379/laws.FnExactPairsOf", spec := "fnExactPairsOf", apart := false }
def FnExactPairsOfSaid : Prop := fnExactPairsOfRow.holds Try.pinned (OpenSpec.ofChange fnExactPairsOfSpec)

/-- ITS FALSE NEIGHBOUR: 'it returns false'. Refute it at one input. -/
def fnExactPairsOfWrong : ChangeSpec := { name := "fnExactPairsOf", fn := fun _ => fun
  | [d1, d2] => { results := [.lit (.bool false)], args := [d1, d2] }
  | _ => none }
def FnExactPairsOfWrongFalsely : Prop := fnExactPairsOfRow.holds Try.pinned (OpenSpec.ofChange fnExactPairsOfWrong)

/-- 'laws.FnExactCircleOf': WHATEVER THE INPUT: true; the input reads as it did. -/
def fnExactCircleOfSpec : ChangeSpec := { name := "fnExactCircleOf", fn := fun _ => fun
  | [d] => { results := [.lit (.bool true)], args := [d] }
  | _ => none }
def fnExactCircleOfRow : OpenClaim := { program := "ytocaepkkaihiiaa", sum := "0fd9c8bf65f87b25b5716d22ed285903a77d308376e5c09c4e7cc10daad6ae77", func := "loop.example/g01379/laws.FnExactCircleOf", spec := "fnExactCircleOf", apart := false }
def FnExactCircleOfSaid : Prop := fnExactCircleOfRow.holds Try.pinned (OpenSpec.ofChange fnExactCircleOfSpec)

/-- ITS FALSE NEIGHBOUR: 'it returns false'. Refute it at one input. -/
def fnExactCircleOfWrong : ChangeSpec := { name := "fnExactCircleOf", fn := fun _ => fun
  | [d] => { results := [.lit (.bool false)], args := [d] }
  | _ => none }
def FnExactCircleOfWrongFalsely : Prop := fnExactCircleOfRow.holds Try.pinned (OpenSpec.ofChange fnExactCircleOfWrong)

/-- 'laws.FnExactIsSquare': WHATEVER THE INPUT: true; the input reads as it did. -/
def fnExactIsSquareSpec : ChangeSpec := { name := "fnExactIsSquare", fn := fun _ => fun
  | [d] => { results := [.lit (.bool true)], args := [d] }
  | _ => none }
def fnExactIsSquareRow : OpenClaim := { program := "ytocaepkkaihiiaa", sum := "0fd9c8bf65f87b25b5716d22ed285903a77d308376e5c09c4e7cc10daad6ae77", func := "loop.example/g01379/laws.FnExactIsSquare", spec := "fnExactIsSquare", unfollowed := true, recurses := true, apart := false }
def FnExactIsSquareSaid : Prop := fnExactIsSquareRow.holds Try.pinned (OpenSpec.ofChange fnExactIsSquareSpec)

/-- ITS FALSE NEIGHBOUR: 'it returns false'. Refute it at one input. -/
def fnExactIsSquareWrong : ChangeSpec := { name := "fnExactIsSquare", fn := fun _ => fun
  | [d] => { results := [.lit (.bool false)], args := [d] }
  | _ => none }
def FnExactIsSquareWrongFalsely : Prop := fnExactIsSquareRow.holds Try.pinned (OpenSpec.ofChange fnExactIsSquareWrong)

/-- 'laws.FnExactRoundOf': WHATEVER THE INPUT: true; the input reads as it did. -/
def fnExactRoundOfSpec : ChangeSpec := { name := "fnExactRoundOf", fn := fun _ => fun
  | [d1, d2] => { results := [.lit (.bool true)], args := [d1, d2] }
  | _ => none }
def fnExactRoundOfRow : OpenClaim := { program := "ytocaepkkaihiiaa", sum := "0fd9c8bf65f87b25b5716d22ed285903a77d308376e5c09c4e7cc10daad6ae77", func := "loop.example/g01379/laws.FnExactRoundOf", spec := "fnExactRoundOf", unfollowed := true, recurses := true, apart := false }
def FnExactRoundOfSaid : Prop := fnExactRoundOfRow.holds Try.pinned (OpenSpec.ofChange fnExactRoundOfSpec)

/-- ITS FALSE NEIGHBOUR: 'it returns false'. Refute it at one input. -/
def fnExactRoundOfWrong : ChangeSpec := { name := "fnExactRoundOf", fn := fun _ => fun
  | [d1, d2] => { results := [.lit (.bool false)], args := [d1, d2] }
  | _ => none }
def FnExactRoundOfWrongFalsely : Prop := fnExactRoundOfRow.holds Try.pinned (OpenSpec.ofChange fnExactRoundOfWrong)

/-- 'laws.FnExactCellOf': WHATEVER THE INPUT: true; the input reads as it did. -/
def fnExactCellOfSpec : ChangeSpec := { name := "fnExactCellOf", fn := fun _ => fun
  | [d1, d2, d3] => { results := [.lit (.bool true)], args := [d1, d2, d3] }
  | _ => none }
def fnExactCellOfRow : OpenClaim := { program := "ytocaepkkaihiiaa", sum := "0fd9c8bf65f87b25b5716d22ed285903a77d308376e5c09c4e7cc10daad6ae77", func := "loop.example/g01379/laws.FnExactCellOf", spec := "fnExactCellOf", unfollowed := true, recurses := true, apart := false }
def FnExactCellOfSaid : Prop := fnExactCellOfRow.holds Try.pinned (OpenSpec.ofChange fnExactCellOfSpec)

/-- ITS FALSE NEIGHBOUR: 'it returns false'. Refute it at one input. -/
def fnExactCellOfWrong : ChangeSpec := { name := "fnExactCellOf", fn := fun _ => fun
  | [d1, d2, d3] => { results := [.lit (.bool false)], args := [d1, d2, d3] }
  | _ => none }
def FnExactCellOfWrongFalsely : Prop := fnExactCellOfRow.holds Try.pinned (OpenSpec.ofChange fnExactCellOfWrong)

/-- 'laws.FnExactIsStarter': WHATEVER THE INPUT: true; the input reads as it did. -/
def fnExactIsStarterSpec : ChangeSpec := { name := "fnExactIsStarter", fn := fun _ => fun
  | [d1, d2] => { results := [.lit (.bool true)], args := [d1, d2] }
  | _ => none }
def fnExactIsStarterRow : OpenClaim := { program := "ytocaepkkaihiiaa", sum := "0fd9c8bf65f87b25b5716d22ed285903a77d308376e5c09c4e7cc10daad6ae77", func := "loop.example/g01379/laws.FnExactIsStarter", spec := "fnExactIsStarter", unfollowed := true, recurses := true, apart := false }
def FnExactIsStarterSaid : Prop := fnExactIsStarterRow.holds Try.pinned (OpenSpec.ofChange fnExactIsStarterSpec)

/-- ITS FALSE NEIGHBOUR: 'it returns false'. Refute it at one input. -/
def fnExactIsStarterWrong : ChangeSpec := { name := "fnExactIsStarter", fn := fun _ => fun
  | [d1, d2] => { results := [.lit (.bool false)], args := [d1, d2] }
  | _ => none }
def FnExactIsStarterWrongFalsely : Prop := fnExactIsStarterRow.holds Try.pinned (OpenSpec.ofChange fnExactIsStarterWrong)

/-- 'laws.FnExactCountRobins': WHATEVER THE INPUT: true; the input reads as it did. -/
def fnExactCountRobinsSpec : ChangeSpec := { name := "fnExactCountRobins", fn := fun _ => fun
  | [d] => { results := [.lit (.bool true)], args := [d] }
  | _ => none }
def fnExactCountRobinsRow : OpenClaim := { program := "ytocaepkkaihiiaa", sum := "0fd9c8bf65f87b25b5716d22ed285903a77d308376e5c09c4e7cc10daad6ae77", func := "loop.example/g01379/laws.FnExactCountRobins", spec := "fnExactCountRobins", unfollowed := true, recurses := true, apart := false }
def FnExactCountRobinsSaid : Prop := fnExactCountRobinsRow.holds Try.pinned (OpenSpec.ofChange fnExactCountRobinsSpec)

/-- ITS FALSE NEIGHBOUR: 'it returns false'. Refute it at one input. -/
def fnExactCountRobinsWrong : ChangeSpec := { name := "fnExactCountRobins", fn := fun _ => fun
  | [d] => { results := [.lit (.bool false)], args := [d] }
  | _ => none }
def FnExactCountRobinsWrongFalsely : Prop := fnExactCountRobinsRow.holds Try.pinned (OpenSpec.ofChange fnExactCountRobinsWrong)

/-- 'laws.FnExactStarterList': WHATEVER THE INPUT: true; the input reads as it did. -/
def fnExactStarterListSpec : ChangeSpec := { name := "fnExactStarterList", fn := fun _ => fun
  | [d] => { results := [.lit (.bool true)], args := [d] }
  | _ => none }
def fnExactStarterListRow : OpenClaim := { program := "ytocaepkkaihiiaa", sum := "0fd9c8bf65f87b25b5716d22ed285903a77d308376e5c09c4e7cc10daad6ae77", func := "loop.example/g01379/laws.FnExactStarterList", spec := "fnExactStarterList", unfollowed := true, recurses := true, apart := false }
def FnExactStarterListSaid : Prop := fnExactStarterListRow.holds Try.pinned (OpenSpec.ofChange fnExactStarterListSpec)

/-- ITS FALSE NEIGHBOUR: 'it returns false'. Refute it at one input. -/
def fnExactStarterListWrong : ChangeSpec := { name := "fnExactStarterList", fn := fun _ => fun
  | [d] => { results := [.lit (.bool false)], args := [d] }
  | _ => none }
def FnExactStarterListWrongFalsely : Prop := fnExactStarterListRow.holds Try.pinned (OpenSpec.ofChange fnExactStarterListWrong)

/-- 'laws.FnExactAddRound': WHATEVER THE INPUT: true; the input reads as it did. -/
def fnExactAddRoundSpec : ChangeSpec := { name := "fnExactAddRound", fn := fun _ => fun
  | [d1, d2] => { results := [.lit (.bool true)], args := [d1, d2] }
  | _ => none }
def fnExactAddRoundRow : OpenClaim := { program := "ytocaepkkaihiiaa", sum := "0fd9c8bf65f87b25b5716d22ed285903a77d308376e5c09c4e7cc10daad6ae77", func := "loop.example/g01379/laws.FnExactAddRound", spec := "fnExactAddRound", unfollowed := true, recurses := true, apart := false }
def FnExactAddRoundSaid : Prop := fnExactAddRoundRow.holds Try.pinned (OpenSpec.ofChange fnExactAddRoundSpec)

/-- ITS FALSE NEIGHBOUR: 'it returns false'. Refute it at one input. -/
def fnExactAddRoundWrong : ChangeSpec := { name := "fnExactAddRound", fn := fun _ => fun
  | [d1, d2] => { results := [.lit (.bool false)], args := [d1, d2] }
  | _ => none }
def FnExactAddRoundWrongFalsely : Prop := fnExactAddRoundRow.holds Try.pinned (OpenSpec.ofChange fnExactAddRoundWrong)

/-- 'laws.FnExactSumsOf': WHATEVER THE INPUT: true; the input reads as it did. -/
def fnExactSumsOfSpec : ChangeSpec := { name := "fnExactSumsOf", fn := fun _ => fun
  | [d1, d2] => { results := [.lit (.bool true)], args := [d1, d2] }
  | _ => none }
def fnExactSumsOfRow : OpenClaim := { program := "ytocaepkkaihiiaa", sum := "0fd9c8bf65f87b25b5716d22ed285903a77d308376e5c09c4e7cc10daad6ae77", func := "loop.example/g01379/laws.FnExactSumsOf", spec := "fnExactSumsOf", unfollowed := true, recurses := true, apart := false }
def FnExactSumsOfSaid : Prop := fnExactSumsOfRow.holds Try.pinned (OpenSpec.ofChange fnExactSumsOfSpec)

/-- ITS FALSE NEIGHBOUR: 'it returns false'. Refute it at one input. -/
def fnExactSumsOfWrong : ChangeSpec := { name := "fnExactSumsOf", fn := fun _ => fun
  | [d1, d2] => { results := [.lit (.bool false)], args := [d1, d2] }
  | _ => none }
def FnExactSumsOfWrongFalsely : Prop := fnExactSumsOfRow.holds Try.pinned (OpenSpec.ofChange fnExactSumsOfWrong)

/-- 'laws.FnExactOpponentsOf': WHATEVER THE INPUT: true; the input reads as it did. -/
def fnExactOpponentsOfSpec : ChangeSpec := { name := "fnExactOpponentsOf", fn := fun _ => fun
  | [d1, d2] => { results := [.lit (.bool true)], args := [d1, d2] }
  | _ => none }
def fnExactOpponentsOfRow : OpenClaim := { program := "ytocaepkkaihiiaa", sum := "0fd9c8bf65f87b25b5716d22ed285903a77d308376e5c09c4e7cc10daad6ae77", func := "loop.example/g01379/laws.FnExactOpponentsOf", spec := "fnExactOpponentsOf", unfollowed := true, recurses := true, apart := false }
def FnExactOpponentsOfSaid : Prop := fnExactOpponentsOfRow.holds Try.pinned (OpenSpec.ofChange fnExactOpponentsOfSpec)

/-- ITS FALSE NEIGHBOUR: 'it returns false'. Refute it at one input. -/
def fnExactOpponentsOfWrong : ChangeSpec := { name := "fnExactOpponentsOf", fn := fun _ => fun
  | [d1, d2] => { results := [.lit (.bool false)], args := [d1, d2] }
  | _ => none }
def FnExactOpponentsOfWrongFalsely : Prop := fnExactOpponentsOfRow.holds Try.pinned (OpenSpec.ofChange fnExactOpponentsOfWrong)

/-- 'laws.FnExactRoundsBetween': WHATEVER THE INPUT: true; the input reads as it did. -/
def fnExactRoundsBetweenSpec : ChangeSpec := { name := "fnExactRoundsBetween", fn := fun _ => fun
  | [d1, d2, d3] => { results := [.lit (.bool true)], args := [d1, d2, d3] }
  | _ => none }
def fnExactRoundsBetweenRow : OpenClaim := { program := "ytocaepkkaihiiaa", sum := "0fd9c8bf65f87b25b5716d22ed285903a77d308376e5c09c4e7cc10daad6ae77", func := "loop.example/g01379/laws.FnExactRoundsBetween", spec := "fnExactRoundsBetween", unfollowed := true, recurses := true, apart := false }
def FnExactRoundsBetweenSaid : Prop := fnExactRoundsBetweenRow.holds Try.pinned (OpenSpec.ofChange fnExactRoundsBetweenSpec)

/-- ITS FALSE NEIGHBOUR: 'it returns false'. Refute it at one input. -/
def fnExactRoundsBetweenWrong : ChangeSpec := { name := "fnExactRoundsBetween", fn := fun _ => fun
  | [d1, d2, d3] => { results := [.lit (.bool false)], args := [d1, d2, d3] }
  | _ => none }
def FnExactRoundsBetweenWrongFalsely : Prop := fnExactRoundsBetweenRow.holds Try.pinned (OpenSpec.ofChange fnExactRoundsBetweenWrong)

/- THE SECOND FORM. 'bulk': how many values and letters a reading holds, each counted each time it is reached (what is shared counts as often as it is met; a slice's spare places count too). A statement '..UptoSaid' is the law's where the arguments, and the package variables that the reading takes, are together of bulk at most 1048576: NARROWER than '..Said'. Prove '..Said' where nothing that the law and all that it calls make is longer than what came in: it says more and counts as full. Else prove '..UptoSaid'. A law counts once. -/
mutual
def uptoBulk {H : Type} : DataW H → Nat
  | .lit (.string bytes) => bytes.length + 1
  | .lit _ => 1
  | .nil => 1
  | .ptr d => uptoBulk d + 1
  | .slice elems spare => uptoBulkAll elems + uptoBulkAll spare + 1
  | .agg parts => uptoBulkAll parts + 1
  | .iface _ d => uptoBulk d + 1
  | .map entries => uptoBulkEntries entries + 1
  | .held _ => 1
def uptoBulkAll {H : Type} : List (DataW H) → Nat
  | [] => 0
  | d :: r => uptoBulk d + uptoBulkAll r
def uptoBulkEntries {H : Type} : List (Lit × DataW H) → Nat
  | [] => 0
  | x :: r => uptoBulkEntry x + uptoBulkEntries r
def uptoBulkEntry {H : Type} : Lit × DataW H → Nat
  | (.string bytes, d) => bytes.length + uptoBulk d + 1
  | (_, d) => uptoBulk d + 1
 end
def uptoSmall : (H : Type) → List (DataW H) → Bool := fun _ ds => decide (uptoBulkAll ds ≤ 1048576)
def OpenSpec.upto (s : _root_.Go.ChangeSpec) : _root_.Go.OpenSpec := { _root_.Go.OpenSpec.ofChange s with cond := some uptoSmall }

/-- 'laws.FnExactPairsOf', WHERE WHAT IT READS IS OF BULK AT MOST 1048576: true; the input reads as it did. -/
def fnExactPairsOfUptoRow : OpenClaim := { program := "ytocaepkkaihiiaa", sum := "0fd9c8bf65f87b25b5716d22ed285903a77d308376e5c09c4e7cc10daad6ae77", func := "loop.example/g01379/laws.FnExactPairsOf", spec := "fnExactPairsOf", apart := false, narrowed := true }
def FnExactPairsOfUptoSaid : Prop := fnExactPairsOfUptoRow.holds Try.pinned (OpenSpec.upto fnExactPairsOfSpec)

/-- 'laws.FnExactCircleOf', WHERE WHAT IT READS IS OF BULK AT MOST 1048576: true; the input reads as it did. -/
def fnExactCircleOfUptoRow : OpenClaim := { program := "ytocaepkkaihiiaa", sum := "0fd9c8bf65f87b25b5716d22ed285903a77d308376e5c09c4e7cc10daad6ae77", func := "loop.example/g01379/laws.FnExactCircleOf", spec := "fnExactCircleOf", apart := false, narrowed := true }
def FnExactCircleOfUptoSaid : Prop := fnExactCircleOfUptoRow.holds Try.pinned (OpenSpec.upto fnExactCircleOfSpec)

/-- 'laws.FnExactIsSquare', WHERE WHAT IT READS IS OF BULK AT MOST 1048576: true; the input reads as it did. -/
def fnExactIsSquareUptoRow : OpenClaim := { program := "ytocaepkkaihiiaa", sum := "0fd9c8bf65f87b25b5716d22ed285903a77d308376e5c09c4e7cc10daad6ae77", func := "loop.example/g01379/laws.FnExactIsSquare", spec := "fnExactIsSquare", unfollowed := true, recurses := true, apart := false, narrowed := true }
def FnExactIsSquareUptoSaid : Prop := fnExactIsSquareUptoRow.holds Try.pinned (OpenSpec.upto fnExactIsSquareSpec)

/-- 'laws.FnExactRoundOf', WHERE WHAT IT READS IS OF BULK AT MOST 1048576: true; the input reads as it did. -/
def fnExactRoundOfUptoRow : OpenClaim := { program := "ytocaepkkaihiiaa", sum := "0fd9c8bf65f87b25b5716d22ed285903a77d308376e5c09c4e7cc10daad6ae77", func := "loop.example/g01379/laws.FnExactRoundOf", spec := "fnExactRoundOf", unfollowed := true, recurses := true, apart := false, narrowed := true }
def FnExactRoundOfUptoSaid : Prop := fnExactRoundOfUptoRow.holds Try.pinned (OpenSpec.upto fnExactRoundOfSpec)

/-- 'laws.FnExactCellOf', WHERE WHAT IT READS IS OF BULK AT MOST 1048576: true; the input reads as it did. -/
def fnExactCellOfUptoRow : OpenClaim := { program := "ytocaepkkaihiiaa", sum := "0fd9c8bf65f87b25b5716d22ed285903a77d308376e5c09c4e7cc10daad6ae77", func := "loop.example/g01379/laws.FnExactCellOf", spec := "fnExactCellOf", unfollowed := true, recurses := true, apart := false, narrowed := true }
def FnExactCellOfUptoSaid : Prop := fnExactCellOfUptoRow.holds Try.pinned (OpenSpec.upto fnExactCellOfSpec)

/-- 'laws.FnExactIsStarter', WHERE WHAT IT READS IS OF BULK AT MOST 1048576: true; the input reads as it did. -/
def fnExactIsStarterUptoRow : OpenClaim := { program := "ytocaepkkaihiiaa", sum := "0fd9c8bf65f87b25b5716d22ed285903a77d308376e5c09c4e7cc10daad6ae77", func := "loop.example/g01379/laws.FnExactIsStarter", spec := "fnExactIsStarter", unfollowed := true, recurses := true, apart := false, narrowed := true }
def FnExactIsStarterUptoSaid : Prop := fnExactIsStarterUptoRow.holds Try.pinned (OpenSpec.upto fnExactIsStarterSpec)

/-- 'laws.FnExactCountRobins', WHERE WHAT IT READS IS OF BULK AT MOST 1048576: true; the input reads as it did. -/
def fnExactCountRobinsUptoRow : OpenClaim := { program := "ytocaepkkaihiiaa", sum := "0fd9c8bf65f87b25b5716d22ed285903a77d308376e5c09c4e7cc10daad6ae77", func := "loop.example/g01379/laws.FnExactCountRobins", spec := "fnExactCountRobins", unfollowed := true, recurses := true, apart := false, narrowed := true }
def FnExactCountRobinsUptoSaid : Prop := fnExactCountRobinsUptoRow.holds Try.pinned (OpenSpec.upto fnExactCountRobinsSpec)

/-- 'laws.FnExactStarterList', WHERE WHAT IT READS IS OF BULK AT MOST 1048576: true; the input reads as it did. -/
def fnExactStarterListUptoRow : OpenClaim := { program := "ytocaepkkaihiiaa", sum := "0fd9c8bf65f87b25b5716d22ed285903a77d308376e5c09c4e7cc10daad6ae77", func := "loop.example/g01379/laws.FnExactStarterList", spec := "fnExactStarterList", unfollowed := true, recurses := true, apart := false, narrowed := true }
def FnExactStarterListUptoSaid : Prop := fnExactStarterListUptoRow.holds Try.pinned (OpenSpec.upto fnExactStarterListSpec)

/-- 'laws.FnExactAddRound', WHERE WHAT IT READS IS OF BULK AT MOST 1048576: true; the input reads as it did. -/
def fnExactAddRoundUptoRow : OpenClaim := { program := "ytocaepkkaihiiaa", sum := "0fd9c8bf65f87b25b5716d22ed285903a77d308376e5c09c4e7cc10daad6ae77", func := "loop.example/g01379/laws.FnExactAddRound", spec := "fnExactAddRound", unfollowed := true, recurses := true, apart := false, narrowed := true }
def FnExactAddRoundUptoSaid : Prop := fnExactAddRoundUptoRow.holds Try.pinned (OpenSpec.upto fnExactAddRoundSpec)

/-- 'laws.FnExactSumsOf', WHERE WHAT IT READS IS OF BULK AT MOST 1048576: true; the input reads as it did. -/
def fnExactSumsOfUptoRow : OpenClaim := { program := "ytocaepkkaihiiaa", sum := "0fd9c8bf65f87b25b5716d22ed285903a77d308376e5c09c4e7cc10daad6ae77", func := "loop.example/g01379/laws.FnExactSumsOf", spec := "fnExactSumsOf", unfollowed := true, recurses := true, apart := false, narrowed := true }
def FnExactSumsOfUptoSaid : Prop := fnExactSumsOfUptoRow.holds Try.pinned (OpenSpec.upto fnExactSumsOfSpec)

/-- 'laws.FnExactOpponentsOf', WHERE WHAT IT READS IS OF BULK AT MOST 1048576: true; the input reads as it did. -/
def fnExactOpponentsOfUptoRow : OpenClaim := { program := "ytocaepkkaihiiaa", sum := "0fd9c8bf65f87b25b5716d22ed285903a77d308376e5c09c4e7cc10daad6ae77", func := "loop.example/g01379/laws.FnExactOpponentsOf", spec := "fnExactOpponentsOf", unfollowed := true, recurses := true, apart := false, narrowed := true }
def FnExactOpponentsOfUptoSaid : Prop := fnExactOpponentsOfUptoRow.holds Try.pinned (OpenSpec.upto fnExactOpponentsOfSpec)

/-- 'laws.FnExactRoundsBetween', WHERE WHAT IT READS IS OF BULK AT MOST 1048576: true; the input reads as it did. -/
def fnExactRoundsBetweenUptoRow : OpenClaim := { program := "ytocaepkkaihiiaa", sum := "0fd9c8bf65f87b25b5716d22ed285903a77d308376e5c09c4e7cc10daad6ae77", func := "loop.example/g01379/laws.FnExactRoundsBetween", spec := "fnExactRoundsBetween", unfollowed := true, recurses := true, apart := false, narrowed := true }
def FnExactRoundsBetweenUptoSaid : Prop := fnExactRoundsBetweenUptoRow.holds Try.pinned (OpenSpec.upto fnExactRoundsBetweenSpec)

end Rows
end Go.Proofs.Ytocaepkkaihiiaa
