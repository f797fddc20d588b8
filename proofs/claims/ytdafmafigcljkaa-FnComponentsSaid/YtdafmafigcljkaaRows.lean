/-
  No cell of these rows narrows 'for every input' (looked for: loops, veiled, ifaces, maps, wideKeys, modest, calm, conditions, laid).
  DERIVED. THE GIVEN ROWS OF THIS SEAT. 7 by the template 'for every input the law returns true; each argument reads behind the call as it read before'; 0 by the template 'total and deterministic' (their statements: YtdafmafigcljkaaTotals.lean).
  GIVEN WITH THE SEED: the statements are not yours to turn. If you find one false, say at which input.
  Laid BY PROGRAM, IN A SANDBOX (cutbox-rows.mjs): the forced cells as the released guide's own fill.sh prints them over the translation 0135a320bb3583d6… (all of the seat's roots in one cut). By AI agents, Wed Nov 11 2026. No macro, syntax, notation, axiom, sorry.
-/
import Derived.Test.YtdafmafigcljkaaChecked
import GoSem.Claim
import GoSem.ClaimJoined
import GoSem.ClaimMapViews
import Derived.JoinedTies
import Derived.KernelRfl
namespace Go.Proofs.Ytdafmafigcljkaa
/- THE CELL 'sum', in the pinned program and in every row, IS THE sha256 OF THE DUMP (.gsa) THAT YtdafmafigcljkaaProg.lean LOADS. Nothing in Lean hashes anything: it is a label: what it is worth is what the hold of that sum in a sandbox is worth. -/
noncomputable def Try.pinned : Pinned := { name := "ytdafmafigcljkaa", sum := "0135a320bb3583d6c0689c550a09fba8b23985316e2cb53cfb3727a0db5ff6a8", checked := Try.checked }
namespace Rows
def none {H : Type} : Left H := { results := [], args := [] }

/-- 'laws.FnExactCountRobins': WHATEVER THE INPUT: true; the input reads as it did. -/
def fnExactCountRobinsSpec : ChangeSpec := { name := "fnExactCountRobins", fn := fun _ => fun
  | [d] => { results := [.lit (.bool true)], args := [d] }
  | _ => none }
def fnExactCountRobinsRow : OpenClaim := { program := "ytdafmafigcljkaa", sum := "0135a320bb3583d6c0689c550a09fba8b23985316e2cb53cfb3727a0db5ff6a8", func := "loop.example/g01379/laws.FnExactCountRobins", spec := "fnExactCountRobins", unfollowed := true, recurses := true, apart := false }
def FnExactCountRobinsSaid : Prop := fnExactCountRobinsRow.holds Try.pinned (OpenSpec.ofChange fnExactCountRobinsSpec)

/-- ITS FALSE NEIGHBOUR: 'it returns false'. Refute it at one input. -/
def fnExactCountRobinsWrong : ChangeSpec := { name := "fnExactCountRobins", fn := fun _ => fun
  | [d] => { results := [.lit (.bool false)], args := [d] }
  | _ => none }
def FnExactCountRobinsWrongFalsely : Prop := fnExactCountRobinsRow.holds Try.pinned (OpenSpec.ofChange fnExactCountRobinsWrong)

/-- 'laws.FnExactStarterList': WHATEVER THE INPUT: true; the input reads as it did. -/
def fnExactStarterListSpec : ChangeSpec := { name := "fnExactStarterList", fn := fun _ => fun
  | [d] => { results := [.lit (.bool true)], args := [d] }
  | _ => none }
def fnExactStarterListRow : OpenClaim := { program := "ytdafmafigcljkaa", sum := "0135a320bb3583d6c0689c550a09fba8b23985316e2cb53cfb3727a0db5ff6a8", func := "loop.example/g01379/laws.FnExactStarterList", spec := "fnExactStarterList", unfollowed := true, recurses := true, apart := false }
def FnExactStarterListSaid : Prop := fnExactStarterListRow.holds Try.pinned (OpenSpec.ofChange fnExactStarterListSpec)

/-- ITS FALSE NEIGHBOUR: 'it returns false'. Refute it at one input. -/
def fnExactStarterListWrong : ChangeSpec := { name := "fnExactStarterList", fn := fun _ => fun
  | [d] => { results := [.lit (.bool false)], args := [d] }
  | _ => none }
def FnExactStarterListWrongFalsely : Prop := fnExactStarterListRow.holds Try.pinned (OpenSpec.ofChange fnExactStarterListWrong)

/-- 'laws.FnExactFewestBreaks': WHATEVER THE INPUT: true; the input reads as it did. -/
def fnExactFewestBreaksSpec : ChangeSpec := { name := "fnExactFewestBreaks", fn := fun _ => fun
  | [d] => { results := [.lit (.bool true)], args := [d] }
  | _ => none }
def fnExactFewestBreaksRow : OpenClaim := { program := "ytdafmafigcljkaa", sum := "0135a320bb3583d6c0689c550a09fba8b23985316e2cb53cfb3727a0db5ff6a8", func := "loop.example/g01379/laws.FnExactFewestBreaks", spec := "fnExactFewestBreaks", unfollowed := true, recurses := true, apart := false }
def FnExactFewestBreaksSaid : Prop := fnExactFewestBreaksRow.holds Try.pinned (OpenSpec.ofChange fnExactFewestBreaksSpec)

/-- ITS FALSE NEIGHBOUR: 'it returns false'. Refute it at one input. -/
def fnExactFewestBreaksWrong : ChangeSpec := { name := "fnExactFewestBreaks", fn := fun _ => fun
  | [d] => { results := [.lit (.bool false)], args := [d] }
  | _ => none }
def FnExactFewestBreaksWrongFalsely : Prop := fnExactFewestBreaksRow.holds Try.pinned (OpenSpec.ofChange fnExactFewestBreaksWrong)

/-- 'laws.FnExactCountStarters': WHATEVER THE INPUT: true; the input reads as it did. -/
def fnExactCountStartersSpec : ChangeSpec := { name := "fnExactCountStarters", fn := fun _ => fun
  | [d] => { results := [.lit (.bool true)], args := [d] }
  | _ => none }
def fnExactCountStartersRow : OpenClaim := { program := "ytdafmafigcljkaa", sum := "0135a320bb3583d6c0689c550a09fba8b23985316e2cb53cfb3727a0db5ff6a8", func := "loop.example/g01379/laws.FnExactCountStarters", spec := "fnExactCountStarters", unfollowed := true, recurses := true, apart := false }
def FnExactCountStartersSaid : Prop := fnExactCountStartersRow.holds Try.pinned (OpenSpec.ofChange fnExactCountStartersSpec)

/-- ITS FALSE NEIGHBOUR: 'it returns false'. Refute it at one input. -/
def fnExactCountStartersWrong : ChangeSpec := { name := "fnExactCountStarters", fn := fun _ => fun
  | [d] => { results := [.lit (.bool false)], args := [d] }
  | _ => none }
def FnExactCountStartersWrongFalsely : Prop := fnExactCountStartersRow.holds Try.pinned (OpenSpec.ofChange fnExactCountStartersWrong)

/-- 'laws.FnExactFirstStrong': WHATEVER THE INPUT: true; the input reads as it did. -/
def fnExactFirstStrongSpec : ChangeSpec := { name := "fnExactFirstStrong", fn := fun _ => fun
  | [d] => { results := [.lit (.bool true)], args := [d] }
  | _ => none }
def fnExactFirstStrongRow : OpenClaim := { program := "ytdafmafigcljkaa", sum := "0135a320bb3583d6c0689c550a09fba8b23985316e2cb53cfb3727a0db5ff6a8", func := "loop.example/g01379/laws.FnExactFirstStrong", spec := "fnExactFirstStrong", unfollowed := true, recurses := true, apart := false }
def FnExactFirstStrongSaid : Prop := fnExactFirstStrongRow.holds Try.pinned (OpenSpec.ofChange fnExactFirstStrongSpec)

/-- ITS FALSE NEIGHBOUR: 'it returns false'. Refute it at one input. -/
def fnExactFirstStrongWrong : ChangeSpec := { name := "fnExactFirstStrong", fn := fun _ => fun
  | [d] => { results := [.lit (.bool false)], args := [d] }
  | _ => none }
def FnExactFirstStrongWrongFalsely : Prop := fnExactFirstStrongRow.holds Try.pinned (OpenSpec.ofChange fnExactFirstStrongWrong)

/-- 'laws.FnExactMultipleOf': WHATEVER THE INPUT: true; the input reads as it did. -/
def fnExactMultipleOfSpec : ChangeSpec := { name := "fnExactMultipleOf", fn := fun _ => fun
  | [d1, d2, d3] => { results := [.lit (.bool true)], args := [d1, d2, d3] }
  | _ => none }
def fnExactMultipleOfRow : OpenClaim := { program := "ytdafmafigcljkaa", sum := "0135a320bb3583d6c0689c550a09fba8b23985316e2cb53cfb3727a0db5ff6a8", func := "loop.example/g01379/laws.FnExactMultipleOf", spec := "fnExactMultipleOf", unfollowed := true, recurses := true, apart := false }
def FnExactMultipleOfSaid : Prop := fnExactMultipleOfRow.holds Try.pinned (OpenSpec.ofChange fnExactMultipleOfSpec)

/-- ITS FALSE NEIGHBOUR: 'it returns false'. Refute it at one input. -/
def fnExactMultipleOfWrong : ChangeSpec := { name := "fnExactMultipleOf", fn := fun _ => fun
  | [d1, d2, d3] => { results := [.lit (.bool false)], args := [d1, d2, d3] }
  | _ => none }
def FnExactMultipleOfWrongFalsely : Prop := fnExactMultipleOfRow.holds Try.pinned (OpenSpec.ofChange fnExactMultipleOfWrong)

/-- 'laws.FnComponents': WHATEVER THE INPUT: true; the input reads as it did. -/
def fnComponentsSpec : ChangeSpec := { name := "fnComponents", fn := fun _ => fun
  | [d] => { results := [.lit (.bool true)], args := [d] }
  | _ => none }
def fnComponentsRow : OpenClaim := { program := "ytdafmafigcljkaa", sum := "0135a320bb3583d6c0689c550a09fba8b23985316e2cb53cfb3727a0db5ff6a8", func := "loop.example/g01379/laws.FnComponents", spec := "fnComponents", unfollowed := true, recurses := true, apart := false }
def FnComponentsSaid : Prop := fnComponentsRow.holds Try.pinned (OpenSpec.ofChange fnComponentsSpec)

/-- ITS FALSE NEIGHBOUR: 'it returns false'. Refute it at one input. -/
def fnComponentsWrong : ChangeSpec := { name := "fnComponents", fn := fun _ => fun
  | [d] => { results := [.lit (.bool false)], args := [d] }
  | _ => none }
def FnComponentsWrongFalsely : Prop := fnComponentsRow.holds Try.pinned (OpenSpec.ofChange fnComponentsWrong)

/- THE SECOND FORM. 'bulk': how many values and letters a reading holds, each counted each time it is reached (what is shared counts as often as it is met; a slice's spare places count too). A statement '..UptoSaid' is the law's where the arguments, and the package variables that the reading takes, are together of bulk at most 1048576: NARROWER than '..Said'. Prove '..Said' where nothing that the law and all that it calls make is longer than what came in: it says more and counts as full. Else prove '..UptoSaid'. A law counts once. -/
mutual
def uptoBulk {H : Type} : DataW H → Nat
  | .lit (.string bytes) => bytes.length + 1
  | .lit _ => 1
  | .nil => 1
  | .ptr d => uptoBulk d + 1
  | .slice elems spare => uptoBulkAll elems + uptoBulkAll spare + 1
  | .agg parts => uptoBulkAll parts + 1
  | .iface _ d => uptoBulk d + 1
  | .map entries => uptoBulkEntries entries + 1
  | .held _ => 1
def uptoBulkAll {H : Type} : List (DataW H) → Nat
  | [] => 0
  | d :: r => uptoBulk d + uptoBulkAll r
def uptoBulkEntries {H : Type} : List (Lit × DataW H) → Nat
  | [] => 0
  | x :: r => uptoBulkEntry x + uptoBulkEntries r
def uptoBulkEntry {H : Type} : Lit × DataW H → Nat
  | (.string bytes, d) => bytes.length + uptoBulk d + 1
  | (_, d) => uptoBulk d + 1
 end
def uptoSmall : (H : Type) → List (DataW H) → Bool := fun _ ds => decide (uptoBulkAll ds ≤ 1048576)
def OpenSpec.upto (s : _root_.Go.ChangeSpec) : _root_.Go.OpenSpec := { _root_.Go.OpenSpec.ofChange s with cond := some uptoSmall }

/-- 'laws.FnExactCountRobins', WHERE WHAT IT READS IS OF BULK AT MOST 1048576: true; the input reads as it did. -/
def fnExactCountRobinsUptoRow : OpenClaim := { program := "ytdafmafigcljkaa", sum := "0135a320bb3583d6c0689c550a09fba8b23985316e2cb53cfb3727a0db5ff6a8", func := "loop.example/g01379/laws.FnExactCountRobins", spec := "fnExactCountRobins", unfollowed := true, recurses := true, apart := false, narrowed := true }
def FnExactCountRobinsUptoSaid : Prop := fnExactCountRobinsUptoRow.holds Try.pinned (OpenSpec.upto fnExactCountRobinsSpec)

/-- 'laws.FnExactStarterList', WHERE WHAT IT READS IS OF BULK AT MOST 1048576: true; the input reads as it did. -/
def fnExactStarterListUptoRow : OpenClaim := { program := "ytdafmafigcljkaa", sum := "0135a320bb3583d6c0689c550a09fba8b23985316e2cb53cfb3727a0db5ff6a8", func := "loop.example/g01379/laws.FnExactStarterList", spec := "fnExactStarterList", unfollowed := true, recurses := true, apart := false, narrowed := true }
def FnExactStarterListUptoSaid : Prop := fnExactStarterListUptoRow.holds Try.pinned (OpenSpec.upto fnExactStarterListSpec)

/-- 'laws.FnExactFewestBreaks', WHERE WHAT IT READS IS OF BULK AT MOST 1048576: true; the input reads as it did. -/
def fnExactFewestBreaksUptoRow : OpenClaim := { program := "ytdafmafigcljkaa", sum := "0135a320bb3583d6c0689c550a09fba8b23985316e2cb53cfb3727a0db5ff6a8", func := "loop.example/g01379/laws.FnExactFewestBreaks", spec := "fnExactFewestBreaks", unfollowed := true, recurses := true, apart := false, narrowed := true }
def FnExactFewestBreaksUptoSaid : Prop := fnExactFewestBreaksUptoRow.holds Try.pinned (OpenSpec.upto fnExactFewestBreaksSpec)

/-- 'laws.FnExactCountStarters', WHERE WHAT IT READS IS OF BULK AT MOST 1048576: true; the input reads as it did. -/
def fnExactCountStartersUptoRow : OpenClaim := { program := "ytdafmafigcljkaa", sum := "0135a320bb3583d6c0689c550a09fba8b23985316e2cb53cfb3727a0db5ff6a8", func := "loop.example/g01379/laws.FnExactCountStarters", spec := "fnExactCountStarters", unfollowed := true, recurses := true, apart := false, narrowed := true }
def FnExactCountStartersUptoSaid : Prop := fnExactCountStartersUptoRow.holds Try.pinned (OpenSpec.upto fnExactCountStartersSpec)

/-- 'laws.FnExactFirstStrong', WHERE WHAT IT READS IS OF BULK AT MOST 1048576: true; the input reads as it did. -/
def fnExactFirstStrongUptoRow : OpenClaim := { program := "ytdafmafigcljkaa", sum := "0135a320bb3583d6c0689c550a09fba8b23985316e2cb53cfb3727a0db5ff6a8", func := "loop.example/g01379/laws.FnExactFirstStrong", spec := "fnExactFirstStrong", unfollowed := true, recurses := true, apart := false, narrowed := true }
def FnExactFirstStrongUptoSaid : Prop := fnExactFirstStrongUptoRow.holds Try.pinned (OpenSpec.upto fnExactFirstStrongSpec)

/-- 'laws.FnExactMultipleOf', WHERE WHAT IT READS IS OF BULK AT MOST 1048576: true; the input reads as it did. -/
def fnExactMultipleOfUptoRow : OpenClaim := { program := "ytdafmafigcljkaa", sum := "0135a320bb3583d6c0689c550a09fba8b23985316e2cb53cfb3727a0db5ff6a8", func := "loop.example/g01379/laws.FnExactMultipleOf", spec := "fnExactMultipleOf", unfollowed := true, recurses := true, apart := false, narrowed := true }
def FnExactMultipleOfUptoSaid : Prop := fnExactMultipleOfUptoRow.holds Try.pinned (OpenSpec.upto fnExactMultipleOfSpec)

/-- 'laws.FnComponents', WHERE WHAT IT READS IS OF BULK AT MOST 1048576: true; the input reads as it did. -/
def fnComponentsUptoRow : OpenClaim := { program := "ytdafmafigcljkaa", sum := "0135a320bb3583d6c0689c550a09fba8b23985316e2cb53cfb3727a0db5ff6a8", func := "loop.example/g01379/laws.FnComponents", spec := "fnComponents", unfollowed := true, recurses := true, apart := false, narrowed := true }
def FnComponentsUptoSaid : Prop := fnComponentsUptoRow.holds Try.pinned (OpenSpec.upto fnComponentsSpec)

end Rows
end Go.Proofs.Ytdafmafigcljkaa
