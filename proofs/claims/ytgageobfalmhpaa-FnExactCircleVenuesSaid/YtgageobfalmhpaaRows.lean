/-
  No cell of these rows narrows 'for every input' (looked for: loops, veiled, ifaces, maps, wideKeys, modest, calm, conditions, laid).
  DERIVED. THE GIVEN ROWS OF THIS SEAT. 6 by the template 'for every input the law returns true; each argument reads behind the call as it read before'; 0 by the template 'total and deterministic' (their statements: YtgageobfalmhpaaTotals.lean).
  GIVEN WITH THE SEED: the statements are not yours to turn. If you find one false, say at which input.
  Laid BY PROGRAM, IN A SANDBOX (cutbox-rows.mjs): the forced cells as the released guide's own fill.sh prints them over the translation 050917f6f7f2d5ce… (all of the seat's roots in one cut). By AI agents, Wed Nov 11 2026. No macro, syntax, notation, axiom, sorry.
-/
import Derived.Test.YtgageobfalmhpaaChecked
import GoSem.Claim
import GoSem.ClaimJoined
import GoSem.ClaimMapViews
import Derived.JoinedTies
import Derived.KernelRfl
namespace Go.Proofs.Ytgageobfalmhpaa
/- THE CELL 'sum', in the pinned program and in every row, IS THE sha256 OF THE DUMP (.gsa) THAT YtgageobfalmhpaaProg.lean LOADS. Nothing in Lean hashes anything: it is a label: what it is worth is what the hold of that sum in a sandbox is worth. -/
noncomputable def Try.pinned : Pinned := { name := "ytgageobfalmhpaa", sum := "050917f6f7f2d5ced65bafd83279fdd1682501e34ba759745403980d3762c8b9", checked := Try.checked }
namespace Rows
def none {H : Type} : Left H := { results := [], args := [] }

/-- 'laws.FnExactConstants': WHATEVER THE INPUT: true; the input reads as it did. -/
def fnExactConstantsSpec : ChangeSpec := { name := "fnExactConstants", fn := fun _ => fun
  | [] => { results := [.lit (.bool true)], args := [] }
  | _ => none }
def fnExactConstantsRow : OpenClaim := { program := "ytgageobfalmhpaa", sum := "050917f6f7f2d5ced65bafd83279fdd1682501e34ba759745403980d3762c8b9", func := "loop.example/g01379/laws.FnExactConstants", spec := "fnExactConstants", apart := false }
def FnExactConstantsSaid : Prop := fnExactConstantsRow.holds Try.pinned (OpenSpec.ofChange fnExactConstantsSpec)

/-- ITS FALSE NEIGHBOUR: 'it returns false'. Refute it at one input. -/
def fnExactConstantsWrong : ChangeSpec := { name := "fnExactConstants", fn := fun _ => fun
  | [] => { results := [.lit (.bool false)], args := [] }
  | _ => none }
def FnExactConstantsWrongFalsely : Prop := fnExactConstantsRow.holds Try.pinned (OpenSpec.ofChange fnExactConstantsWrong)

/-- 'laws.FnExactIsRound': WHATEVER THE INPUT: true; the input reads as it did. -/
def fnExactIsRoundSpec : ChangeSpec := { name := "fnExactIsRound", fn := fun _ => fun
  | [d1, d2] => { results := [.lit (.bool true)], args := [d1, d2] }
  | _ => none }
def fnExactIsRoundRow : OpenClaim := { program := "ytgageobfalmhpaa", sum := "050917f6f7f2d5ced65bafd83279fdd1682501e34ba759745403980d3762c8b9", func := "loop.example/g01379/laws.FnExactIsRound", spec := "fnExactIsRound", apart := false }
def FnExactIsRoundSaid : Prop := fnExactIsRoundRow.holds Try.pinned (OpenSpec.ofChange fnExactIsRoundSpec)

/-- ITS FALSE NEIGHBOUR: 'it returns false'. Refute it at one input. -/
def fnExactIsRoundWrong : ChangeSpec := { name := "fnExactIsRound", fn := fun _ => fun
  | [d1, d2] => { results := [.lit (.bool false)], args := [d1, d2] }
  | _ => none }
def FnExactIsRoundWrongFalsely : Prop := fnExactIsRoundRow.holds Try.pinned (OpenSpec.ofChange fnExactIsRoundWrong)

/-- 'laws.FnExactPatternedStarter': WHATEVER THE INPUT: true; the input reads as it did. -/
def fnExactPatternedStarterSpec : ChangeSpec := { name := "fnExactPatternedStarter", fn := fun _ => fun
  | [d] => { results := [.lit (.bool true)], args := [d] }
  | _ => none }
def fnExactPatternedStarterRow : OpenClaim := { program := "ytgageobfalmhpaa", sum := "050917f6f7f2d5ced65bafd83279fdd1682501e34ba759745403980d3762c8b9", func := "loop.example/g01379/laws.FnExactPatternedStarter", spec := "fnExactPatternedStarter", apart := false }
def FnExactPatternedStarterSaid : Prop := fnExactPatternedStarterRow.holds Try.pinned (OpenSpec.ofChange fnExactPatternedStarterSpec)

/-- ITS FALSE NEIGHBOUR: 'it returns false'. Refute it at one input. -/
def fnExactPatternedStarterWrong : ChangeSpec := { name := "fnExactPatternedStarter", fn := fun _ => fun
  | [d] => { results := [.lit (.bool false)], args := [d] }
  | _ => none }
def FnExactPatternedStarterWrongFalsely : Prop := fnExactPatternedStarterRow.holds Try.pinned (OpenSpec.ofChange fnExactPatternedStarterWrong)

/-- 'laws.FnExactCircleVenues': WHATEVER THE INPUT: true; the input reads as it did. -/
def fnExactCircleVenuesSpec : ChangeSpec := { name := "fnExactCircleVenues", fn := fun _ => fun
  | [d] => { results := [.lit (.bool true)], args := [d] }
  | _ => none }
def fnExactCircleVenuesRow : OpenClaim := { program := "ytgageobfalmhpaa", sum := "050917f6f7f2d5ced65bafd83279fdd1682501e34ba759745403980d3762c8b9", func := "loop.example/g01379/laws.FnExactCircleVenues", spec := "fnExactCircleVenues", apart := false }
def FnExactCircleVenuesSaid : Prop := fnExactCircleVenuesRow.holds Try.pinned (OpenSpec.ofChange fnExactCircleVenuesSpec)

/-- ITS FALSE NEIGHBOUR: 'it returns false'. Refute it at one input. -/
def fnExactCircleVenuesWrong : ChangeSpec := { name := "fnExactCircleVenues", fn := fun _ => fun
  | [d] => { results := [.lit (.bool false)], args := [d] }
  | _ => none }
def FnExactCircleVenuesWrongFalsely : Prop := fnExactCircleVenuesRow.holds Try.pinned (OpenSpec.ofChange fnExactCircleVenuesWrong)

/-- 'laws.FnExactChainFrom': WHATEVER THE INPUT: true; the input reads as it did. -/
def fnExactChainFromSpec : ChangeSpec := { name := "fnExactChainFrom", fn := fun _ => fun
  | [d1, d2, d3, d4] => { results := [.lit (.bool true)], args := [d1, d2, d3, d4] }
  | _ => none }
def fnExactChainFromRow : OpenClaim := { program := "ytgageobfalmhpaa", sum := "050917f6f7f2d5ced65bafd83279fdd1682501e34ba759745403980d3762c8b9", func := "loop.example/g01379/laws.FnExactChainFrom", spec := "fnExactChainFrom", apart := false }
def FnExactChainFromSaid : Prop := fnExactChainFromRow.holds Try.pinned (OpenSpec.ofChange fnExactChainFromSpec)

/-- ITS FALSE NEIGHBOUR: 'it returns false'. Refute it at one input. -/
def fnExactChainFromWrong : ChangeSpec := { name := "fnExactChainFrom", fn := fun _ => fun
  | [d1, d2, d3, d4] => { results := [.lit (.bool false)], args := [d1, d2, d3, d4] }
  | _ => none }
def FnExactChainFromWrongFalsely : Prop := fnExactChainFromRow.holds Try.pinned (OpenSpec.ofChange fnExactChainFromWrong)

/-- 'laws.FnExactIsSchedule': WHATEVER THE INPUT: true; the input reads as it did. -/
def fnExactIsScheduleSpec : ChangeSpec := { name := "fnExactIsSchedule", fn := fun _ => fun
  | [d] => { results := [.lit (.bool true)], args := [d] }
  | _ => none }
def fnExactIsScheduleRow : OpenClaim := { program := "ytgageobfalmhpaa", sum := "050917f6f7f2d5ced65bafd83279fdd1682501e34ba759745403980d3762c8b9", func := "loop.example/g01379/laws.FnExactIsSchedule", spec := "fnExactIsSchedule", unfollowed := true, recurses := true, apart := false }
def FnExactIsScheduleSaid : Prop := fnExactIsScheduleRow.holds Try.pinned (OpenSpec.ofChange fnExactIsScheduleSpec)

/-- ITS FALSE NEIGHBOUR: 'it returns false'. Refute it at one input. -/
def fnExactIsScheduleWrong : ChangeSpec := { name := "fnExactIsSchedule", fn := fun _ => fun
  | [d] => { results := [.lit (.bool false)], args := [d] }
  | _ => none }
def FnExactIsScheduleWrongFalsely : Prop := fnExactIsScheduleRow.holds Try.pinned (OpenSpec.ofChange fnExactIsScheduleWrong)

/- THE SECOND FORM. 'bulk': how many values and letters a reading holds, each counted each time it is reached (what is shared counts as often as it is met; a slice's spare places count too). A statement '..UptoSaid' is the law's where the arguments, and the package variables that the reading takes, are together of bulk at most 1048576: NARROWER than '..Said'. Prove '..Said' where nothing that the law and all that it calls make is longer than what came in: it says more and counts as full. Else prove '..UptoSaid'. A law counts once. -/
mutual
def uptoBulk {H : Type} : DataW H → Nat
  | .lit (.string bytes) => bytes.length + 1
  | .lit _ => 1
  | .nil => 1
  | .ptr d => uptoBulk d + 1
  | .slice elems spare => uptoBulkAll elems + uptoBulkAll spare + 1
  | .agg parts => uptoBulkAll parts + 1
  | .iface _ d => uptoBulk d + 1
  | .map entries => uptoBulkEntries entries + 1
  | .held _ => 1
def uptoBulkAll {H : Type} : List (DataW H) → Nat
  | [] => 0
  | d :: r => uptoBulk d + uptoBulkAll r
def uptoBulkEntries {H : Type} : List (Lit × DataW H) → Nat
  | [] => 0
  | x :: r => uptoBulkEntry x + uptoBulkEntries r
def uptoBulkEntry {H : Type} : Lit × DataW H → Nat
  | (.string bytes, d) => bytes.length + uptoBulk d + 1
  | (_, d) => uptoBulk d + 1
 end
def uptoSmall : (H : Type) → List (DataW H) → Bool := fun _ ds => decide (uptoBulkAll ds ≤ 1048576)
def OpenSpec.upto (s : _root_.Go.ChangeSpec) : _root_.Go.OpenSpec := { _root_.Go.OpenSpec.ofChange s with cond := some uptoSmall }

/-- 'laws.FnExactConstants', WHERE WHAT IT READS IS OF BULK AT MOST 1048576: true; the input reads as it did. -/
def fnExactConstantsUptoRow : OpenClaim := { program := "ytgageobfalmhpaa", sum := "050917f6f7f2d5ced65bafd83279fdd1682501e34ba759745403980d3762c8b9", func := "loop.example/g01379/laws.FnExactConstants", spec := "fnExactConstants", apart := false, narrowed := true }
def FnExactConstantsUptoSaid : Prop := fnExactConstantsUptoRow.holds Try.pinned (OpenSpec.upto fnExactConstantsSpec)

/-- 'laws.FnExactIsRound', WHERE WHAT IT READS IS OF BULK AT MOST 1048576: true; the input reads as it did. -/
def fnExactIsRoundUptoRow : OpenClaim := { program := "ytgageobfalmhpaa", sum := "050917f6f7f2d5ced65bafd83279fdd1682501e34ba759745403980d3762c8b9", func := "loop.example/g01379/laws.FnExactIsRound", spec := "fnExactIsRound", apart := false, narrowed := true }
def FnExactIsRoundUptoSaid : Prop := fnExactIsRoundUptoRow.holds Try.pinned (OpenSpec.upto fnExactIsRoundSpec)

/-- 'laws.FnExactPatternedStarter', WHERE WHAT IT READS IS OF BULK AT MOST 1048576: true; the input reads as it did. -/
def fnExactPatternedStarterUptoRow : OpenClaim := { program := "ytgageobfalmhpaa", sum := "050917f6f7f2d5ced65bafd83279fdd1682501e34ba759745403980d3762c8b9", func := "loop.example/g01379/laws.FnExactPatternedStarter", spec := "fnExactPatternedStarter", apart := false, narrowed := true }
def FnExactPatternedStarterUptoSaid : Prop := fnExactPatternedStarterUptoRow.holds Try.pinned (OpenSpec.upto fnExactPatternedStarterSpec)

/-- 'laws.FnExactCircleVenues', WHERE WHAT IT READS IS OF BULK AT MOST 1048576: true; the input reads as it did. -/
def fnExactCircleVenuesUptoRow : OpenClaim := { program := "ytgageobfalmhpaa", sum := "050917f6f7f2d5ced65bafd83279fdd1682501e34ba759745403980d3762c8b9", func := "loop.example/g01379/laws.FnExactCircleVenues", spec := "fnExactCircleVenues", apart := false, narrowed := true }
def FnExactCircleVenuesUptoSaid : Prop := fnExactCircleVenuesUptoRow.holds Try.pinned (OpenSpec.upto fnExactCircleVenuesSpec)

/-- 'laws.FnExactChainFrom', WHERE WHAT IT READS IS OF BULK AT MOST 1048576: true; the input reads as it did. -/
def fnExactChainFromUptoRow : OpenClaim := { program := "ytgageobfalmhpaa", sum := "050917f6f7f2d5ced65bafd83279fdd1682501e34ba759745403980d3762c8b9", func := "loop.example/g01379/laws.FnExactChainFrom", spec := "fnExactChainFrom", apart := false, narrowed := true }
def FnExactChainFromUptoSaid : Prop := fnExactChainFromUptoRow.holds Try.pinned (OpenSpec.upto fnExactChainFromSpec)

/-- 'laws.FnExactIsSchedule', WHERE WHAT IT READS IS OF BULK AT MOST 1048576: true; the input reads as it did. -/
def fnExactIsScheduleUptoRow : OpenClaim := { program := "ytgageobfalmhpaa", sum := "050917f6f7f2d5ced65bafd83279fdd1682501e34ba759745403980d3762c8b9", func := "loop.example/g01379/laws.FnExactIsSchedule", spec := "fnExactIsSchedule", unfollowed := true, recurses := true, apart := false, narrowed := true }
def FnExactIsScheduleUptoSaid : Prop := fnExactIsScheduleUptoRow.holds Try.pinned (OpenSpec.upto fnExactIsScheduleSpec)

end Rows
end Go.Proofs.Ytgageobfalmhpaa
