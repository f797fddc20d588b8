/-
  No cell of these rows narrows 'for every input' (looked for: loops, veiled, ifaces, maps, wideKeys, modest, calm, conditions, laid).
  DERIVED. THE GIVEN ROWS OF THIS SEAT. 12 by the template 'for every input the law returns true; each argument reads behind the call as it read before'; 0 by the template 'total and deterministic' (their statements: YtpaaoafgahbokaaTotals.lean).
  GIVEN WITH THE SEED: the statements are not yours to turn. If you find one false, say at which input.
  Laid BY PROGRAM, IN A SANDBOX (cutbox-rows.mjs): the forced cells as the released guide's own fill.sh prints them over the translation 6d14354cde58ea46… (all of the seat's roots in one cut). By AI agents, Wed Nov 11 2026. No macro, syntax, notation, axiom, sorry.
-/
import Derived.Test.YtpaaoafgahbokaaChecked
import GoSem.Claim
import GoSem.ClaimJoined
import GoSem.ClaimMapViews
import Derived.JoinedTies
import Derived.KernelRfl
namespace Go.Proofs.Ytpaaoafgahbokaa
/- THE CELL 'sum', in the pinned program and in every row, IS THE sha256 OF THE DUMP (.gsa) THAT YtpaaoafgahbokaaProg.lean LOADS. Nothing in Lean hashes anything: it is a label: what it is worth is what the hold of that sum in a sandbox is worth. -/
noncomputable def Try.pinned : Pinned := { name := "ytpaaoafgahbokaa", sum := "6d14354cde58ea4676ff56deab736d2801a0de63983daa91da6d1020044f2b8f", checked := Try.checked }
namespace Rows
def none {H : Type} : Left H := { results := [], args := [] }

/-- 'laws.FnExactTransposeSquare': WHATEVER THE INPUT: true; the input reads as it did. -/
def fnExactTransposeSquareSpec : ChangeSpec := { name := "fnExactTransposeSquare", fn := fun _ => fun
  | [d] => { results := [.lit (.bool true)], args := [d] }
  | _ => none }
def fnExactTransposeSquareRow : OpenClaim := { program := "ytpaaoafgahbokaa", sum := "6d14354cde58ea4676ff56deab736d2801a0de63983daa91da6d1020044f2b8f", func := "loop.example/g01379/laws.FnExactTransposeSquare", spec := "fnExactTransposeSquare", unfollowed := true, recurses := true, apart := false }
def FnExactTransposeSquareSaid : Prop := fnExactTransposeSquareRow.holds Try.pinned (OpenSpec.ofChange fnExactTransposeSquareSpec)

/-- ITS FALSE NEIGHBOUR: 'it returns false'. Refute it at one input. -/
def fnExactTransposeSquareWrong : ChangeSpec := { name := "fnExactTransposeSquare", fn := fun _ => fun
  | [d] => { results := [.lit (.bool false)], args := [d] }
  | _ => none }
def FnExactTransposeSquareWrongFalsely : Prop := fnExactTransposeSquareRow.holds Try.pinned (OpenSpec.ofChange fnExactTransposeSquareWrong)

/-- 'laws.FnExactJoinSchedules': WHATEVER THE INPUT: true; the input reads as it did. -/
def fnExactJoinSchedulesSpec : ChangeSpec := { name := "fnExactJoinSchedules", fn := fun _ => fun
  | [d1, d2] => { results := [.lit (.bool true)], args := [d1, d2] }
  | _ => none }
def fnExactJoinSchedulesRow : OpenClaim := { program := "ytpaaoafgahbokaa", sum := "6d14354cde58ea4676ff56deab736d2801a0de63983daa91da6d1020044f2b8f", func := "loop.example/g01379/laws.FnExactJoinSchedules", spec := "fnExactJoinSchedules", unfollowed := true, recurses := true, apart := false }
def FnExactJoinSchedulesSaid : Prop := fnExactJoinSchedulesRow.holds Try.pinned (OpenSpec.ofChange fnExactJoinSchedulesSpec)

/-- ITS FALSE NEIGHBOUR: 'it returns false'. Refute it at one input. -/
def fnExactJoinSchedulesWrong : ChangeSpec := { name := "fnExactJoinSchedules", fn := fun _ => fun
  | [d1, d2] => { results := [.lit (.bool false)], args := [d1, d2] }
  | _ => none }
def FnExactJoinSchedulesWrongFalsely : Prop := fnExactJoinSchedulesRow.holds Try.pinned (OpenSpec.ofChange fnExactJoinSchedulesWrong)

/-- 'laws.FnExactFirstVenues': WHATEVER THE INPUT: true; the input reads as it did. -/
def fnExactFirstVenuesSpec : ChangeSpec := { name := "fnExactFirstVenues", fn := fun _ => fun
  | [d] => { results := [.lit (.bool true)], args := [d] }
  | _ => none }
def fnExactFirstVenuesRow : OpenClaim := { program := "ytpaaoafgahbokaa", sum := "6d14354cde58ea4676ff56deab736d2801a0de63983daa91da6d1020044f2b8f", func := "loop.example/g01379/laws.FnExactFirstVenues", spec := "fnExactFirstVenues", unfollowed := true, recurses := true, apart := false }
def FnExactFirstVenuesSaid : Prop := fnExactFirstVenuesRow.holds Try.pinned (OpenSpec.ofChange fnExactFirstVenuesSpec)

/-- ITS FALSE NEIGHBOUR: 'it returns false'. Refute it at one input. -/
def fnExactFirstVenuesWrong : ChangeSpec := { name := "fnExactFirstVenues", fn := fun _ => fun
  | [d] => { results := [.lit (.bool false)], args := [d] }
  | _ => none }
def FnExactFirstVenuesWrongFalsely : Prop := fnExactFirstVenuesRow.holds Try.pinned (OpenSpec.ofChange fnExactFirstVenuesWrong)

/-- 'laws.FnExactAreVenues': WHATEVER THE INPUT: true; the input reads as it did. -/
def fnExactAreVenuesSpec : ChangeSpec := { name := "fnExactAreVenues", fn := fun _ => fun
  | [d1, d2] => { results := [.lit (.bool true)], args := [d1, d2] }
  | _ => none }
def fnExactAreVenuesRow : OpenClaim := { program := "ytpaaoafgahbokaa", sum := "6d14354cde58ea4676ff56deab736d2801a0de63983daa91da6d1020044f2b8f", func := "loop.example/g01379/laws.FnExactAreVenues", spec := "fnExactAreVenues", unfollowed := true, recurses := true, apart := false }
def FnExactAreVenuesSaid : Prop := fnExactAreVenuesRow.holds Try.pinned (OpenSpec.ofChange fnExactAreVenuesSpec)

/-- ITS FALSE NEIGHBOUR: 'it returns false'. Refute it at one input. -/
def fnExactAreVenuesWrong : ChangeSpec := { name := "fnExactAreVenues", fn := fun _ => fun
  | [d1, d2] => { results := [.lit (.bool false)], args := [d1, d2] }
  | _ => none }
def FnExactAreVenuesWrongFalsely : Prop := fnExactAreVenuesRow.holds Try.pinned (OpenSpec.ofChange fnExactAreVenuesWrong)

/-- 'laws.FnExactFewestBreaks': WHATEVER THE INPUT: true; the input reads as it did. -/
def fnExactFewestBreaksSpec : ChangeSpec := { name := "fnExactFewestBreaks", fn := fun _ => fun
  | [d] => { results := [.lit (.bool true)], args := [d] }
  | _ => none }
def fnExactFewestBreaksRow : OpenClaim := { program := "ytpaaoafgahbokaa", sum := "6d14354cde58ea4676ff56deab736d2801a0de63983daa91da6d1020044f2b8f", func := "loop.example/g01379/laws.FnExactFewestBreaks", spec := "fnExactFewestBreaks", unfollowed := true, recurses := true, apart := false }
def FnExactFewestBreaksSaid : Prop := fnExactFewestBreaksRow.holds Try.pinned (OpenSpec.ofChange fnExactFewestBreaksSpec)

/-- ITS FALSE NEIGHBOUR: 'it returns false'. Refute it at one input. -/
def fnExactFewestBreaksWrong : ChangeSpec := { name := "fnExactFewestBreaks", fn := fun _ => fun
  | [d] => { results := [.lit (.bool false)], args := [d] }
  | _ => none }
def FnExactFewestBreaksWrongFalsely : Prop := fnExactFewestBreaksRow.holds Try.pinned (OpenSpec.ofChange fnExactFewestBreaksWrong)

/-- 'laws.FnExactScheduleOfStarter': WHATEVER THE INPUT: true; the input reads as it did. -/
def fnExactScheduleOfStarterSpec : ChangeSpec := { name := "fnExactScheduleOfStarter", fn := fun _ => fun
  | [d1, d2] => { results := [.lit (.bool true)], args := [d1, d2] }
  | _ => none }
def fnExactScheduleOfStarterRow : OpenClaim := { program := "ytpaaoafgahbokaa", sum := "6d14354cde58ea4676ff56deab736d2801a0de63983daa91da6d1020044f2b8f", func := "loop.example/g01379/laws.FnExactScheduleOfStarter", spec := "fnExactScheduleOfStarter", unfollowed := true, recurses := true, apart := false }
def FnExactScheduleOfStarterSaid : Prop := fnExactScheduleOfStarterRow.holds Try.pinned (OpenSpec.ofChange fnExactScheduleOfStarterSpec)

/-- ITS FALSE NEIGHBOUR: 'it returns false'. Refute it at one input. -/
def fnExactScheduleOfStarterWrong : ChangeSpec := { name := "fnExactScheduleOfStarter", fn := fun _ => fun
  | [d1, d2] => { results := [.lit (.bool false)], args := [d1, d2] }
  | _ => none }
def FnExactScheduleOfStarterWrongFalsely : Prop := fnExactScheduleOfStarterRow.holds Try.pinned (OpenSpec.ofChange fnExactScheduleOfStarterWrong)

/-- 'laws.FnExactRowsOf': WHATEVER THE INPUT: true; the input reads as it did. -/
def fnExactRowsOfSpec : ChangeSpec := { name := "fnExactRowsOf", fn := fun _ => fun
  | [d] => { results := [.lit (.bool true)], args := [d] }
  | _ => none }
def fnExactRowsOfRow : OpenClaim := { program := "ytpaaoafgahbokaa", sum := "6d14354cde58ea4676ff56deab736d2801a0de63983daa91da6d1020044f2b8f", func := "loop.example/g01379/laws.FnExactRowsOf", spec := "fnExactRowsOf", unfollowed := true, recurses := true, apart := false }
def FnExactRowsOfSaid : Prop := fnExactRowsOfRow.holds Try.pinned (OpenSpec.ofChange fnExactRowsOfSpec)

/-- ITS FALSE NEIGHBOUR: 'it returns false'. Refute it at one input. -/
def fnExactRowsOfWrong : ChangeSpec := { name := "fnExactRowsOf", fn := fun _ => fun
  | [d] => { results := [.lit (.bool false)], args := [d] }
  | _ => none }
def FnExactRowsOfWrongFalsely : Prop := fnExactRowsOfRow.holds Try.pinned (OpenSpec.ofChange fnExactRowsOfWrong)

/-- 'laws.FnExactAreOpposite': WHATEVER THE INPUT: true; the input reads as it did. -/
def fnExactAreOppositeSpec : ChangeSpec := { name := "fnExactAreOpposite", fn := fun _ => fun
  | [d1, d2, d3, d4] => { results := [.lit (.bool true)], args := [d1, d2, d3, d4] }
  | _ => none }
def fnExactAreOppositeRow : OpenClaim := { program := "ytpaaoafgahbokaa", sum := "6d14354cde58ea4676ff56deab736d2801a0de63983daa91da6d1020044f2b8f", func := "loop.example/g01379/laws.FnExactAreOpposite", spec := "fnExactAreOpposite", unfollowed := true, recurses := true, apart := false }
def FnExactAreOppositeSaid : Prop := fnExactAreOppositeRow.holds Try.pinned (OpenSpec.ofChange fnExactAreOppositeSpec)

/-- ITS FALSE NEIGHBOUR: 'it returns false'. Refute it at one input. -/
def fnExactAreOppositeWrong : ChangeSpec := { name := "fnExactAreOpposite", fn := fun _ => fun
  | [d1, d2, d3, d4] => { results := [.lit (.bool false)], args := [d1, d2, d3, d4] }
  | _ => none }
def FnExactAreOppositeWrongFalsely : Prop := fnExactAreOppositeRow.holds Try.pinned (OpenSpec.ofChange fnExactAreOppositeWrong)

/-- 'laws.FnExactSquareOfSchedules': WHATEVER THE INPUT: true; the input reads as it did. -/
def fnExactSquareOfSchedulesSpec : ChangeSpec := { name := "fnExactSquareOfSchedules", fn := fun _ => fun
  | [d1, d2] => { results := [.lit (.bool true)], args := [d1, d2] }
  | _ => none }
def fnExactSquareOfSchedulesRow : OpenClaim := { program := "ytpaaoafgahbokaa", sum := "6d14354cde58ea4676ff56deab736d2801a0de63983daa91da6d1020044f2b8f", func := "loop.example/g01379/laws.FnExactSquareOfSchedules", spec := "fnExactSquareOfSchedules", unfollowed := true, recurses := true, apart := false }
def FnExactSquareOfSchedulesSaid : Prop := fnExactSquareOfSchedulesRow.holds Try.pinned (OpenSpec.ofChange fnExactSquareOfSchedulesSpec)

/-- ITS FALSE NEIGHBOUR: 'it returns false'. Refute it at one input. -/
def fnExactSquareOfSchedulesWrong : ChangeSpec := { name := "fnExactSquareOfSchedules", fn := fun _ => fun
  | [d1, d2] => { results := [.lit (.bool false)], args := [d1, d2] }
  | _ => none }
def FnExactSquareOfSchedulesWrongFalsely : Prop := fnExactSquareOfSchedulesRow.holds Try.pinned (OpenSpec.ofChange fnExactSquareOfSchedulesWrong)

/-- 'laws.FnExactColumnsOf': WHATEVER THE INPUT: true; the input reads as it did. -/
def fnExactColumnsOfSpec : ChangeSpec := { name := "fnExactColumnsOf", fn := fun _ => fun
  | [d] => { results := [.lit (.bool true)], args := [d] }
  | _ => none }
def fnExactColumnsOfRow : OpenClaim := { program := "ytpaaoafgahbokaa", sum := "6d14354cde58ea4676ff56deab736d2801a0de63983daa91da6d1020044f2b8f", func := "loop.example/g01379/laws.FnExactColumnsOf", spec := "fnExactColumnsOf", unfollowed := true, recurses := true, apart := false }
def FnExactColumnsOfSaid : Prop := fnExactColumnsOfRow.holds Try.pinned (OpenSpec.ofChange fnExactColumnsOfSpec)

/-- ITS FALSE NEIGHBOUR: 'it returns false'. Refute it at one input. -/
def fnExactColumnsOfWrong : ChangeSpec := { name := "fnExactColumnsOf", fn := fun _ => fun
  | [d] => { results := [.lit (.bool false)], args := [d] }
  | _ => none }
def FnExactColumnsOfWrongFalsely : Prop := fnExactColumnsOfRow.holds Try.pinned (OpenSpec.ofChange fnExactColumnsOfWrong)

/-- 'laws.FnExactComponentsOf': WHATEVER THE INPUT: true; the input reads as it did. -/
def fnExactComponentsOfSpec : ChangeSpec := { name := "fnExactComponentsOf", fn := fun _ => fun
  | [d1, d2, d3] => { results := [.lit (.bool true)], args := [d1, d2, d3] }
  | _ => none }
def fnExactComponentsOfRow : OpenClaim := { program := "ytpaaoafgahbokaa", sum := "6d14354cde58ea4676ff56deab736d2801a0de63983daa91da6d1020044f2b8f", func := "loop.example/g01379/laws.FnExactComponentsOf", spec := "fnExactComponentsOf", recurses := true, apart := false }
def FnExactComponentsOfSaid : Prop := fnExactComponentsOfRow.holds Try.pinned (OpenSpec.ofChange fnExactComponentsOfSpec)

/-- ITS FALSE NEIGHBOUR: 'it returns false'. Refute it at one input. -/
def fnExactComponentsOfWrong : ChangeSpec := { name := "fnExactComponentsOf", fn := fun _ => fun
  | [d1, d2, d3] => { results := [.lit (.bool false)], args := [d1, d2, d3] }
  | _ => none }
def FnExactComponentsOfWrongFalsely : Prop := fnExactComponentsOfRow.holds Try.pinned (OpenSpec.ofChange fnExactComponentsOfWrong)

/-- 'laws.FnExactTypeOfRounds': WHATEVER THE INPUT: true; the input reads as it did. -/
def fnExactTypeOfRoundsSpec : ChangeSpec := { name := "fnExactTypeOfRounds", fn := fun _ => fun
  | [d1, d2, d3] => { results := [.lit (.bool true)], args := [d1, d2, d3] }
  | _ => none }
def fnExactTypeOfRoundsRow : OpenClaim := { program := "ytpaaoafgahbokaa", sum := "6d14354cde58ea4676ff56deab736d2801a0de63983daa91da6d1020044f2b8f", func := "loop.example/g01379/laws.FnExactTypeOfRounds", spec := "fnExactTypeOfRounds", recurses := true, apart := false }
def FnExactTypeOfRoundsSaid : Prop := fnExactTypeOfRoundsRow.holds Try.pinned (OpenSpec.ofChange fnExactTypeOfRoundsSpec)

/-- ITS FALSE NEIGHBOUR: 'it returns false'. Refute it at one input. -/
def fnExactTypeOfRoundsWrong : ChangeSpec := { name := "fnExactTypeOfRounds", fn := fun _ => fun
  | [d1, d2, d3] => { results := [.lit (.bool false)], args := [d1, d2, d3] }
  | _ => none }
def FnExactTypeOfRoundsWrongFalsely : Prop := fnExactTypeOfRoundsRow.holds Try.pinned (OpenSpec.ofChange fnExactTypeOfRoundsWrong)

/- THE SECOND FORM. 'bulk': how many values and letters a reading holds, each counted each time it is reached (what is shared counts as often as it is met; a slice's spare places count too). A statement '..UptoSaid' is the law's where the arguments, and the package variables that the reading takes, are together of bulk at most 1048576: NARROWER than '..Said'. Prove '..Said' where nothing that the law and all that it calls make is longer than what came in: it says more and counts as full. Else prove '..UptoSaid'. A law counts once. -/
mutual
def uptoBulk {H : Type} : DataW H → Nat
  | .lit (.string bytes) => bytes.length + 1
  | .lit _ => 1
  | .nil => 1
  | .ptr d => uptoBulk d + 1
  | .slice elems spare => uptoBulkAll elems + uptoBulkAll spare + 1
  | .agg parts => uptoBulkAll parts + 1
  | .iface _ d => uptoBulk d + 1
  | .map entries => uptoBulkEntries entries + 1
  | .held _ => 1
def uptoBulkAll {H : Type} : List (DataW H) → Nat
  | [] => 0
  | d :: r => uptoBulk d + uptoBulkAll r
def uptoBulkEntries {H : Type} : List (Lit × DataW H) → Nat
  | [] => 0
  | x :: r => uptoBulkEntry x + uptoBulkEntries r
def uptoBulkEntry {H : Type} : Lit × DataW H → Nat
  | (.string bytes, d) => bytes.length + uptoBulk d + 1
  | (_, d) => uptoBulk d + 1
 end
def uptoSmall : (H : Type) → List (DataW H) → Bool := fun _ ds => decide (uptoBulkAll ds ≤ 1048576)
def OpenSpec.upto (s : _root_.Go.ChangeSpec) : _root_.Go.OpenSpec := { _root_.Go.OpenSpec.ofChange s with cond := some uptoSmall }

/-- 'laws.FnExactTransposeSquare', WHERE WHAT IT READS IS OF BULK AT MOST 1048576: true; the input reads as it did. -/
def fnExactTransposeSquareUptoRow : OpenClaim := { program := "ytpaaoafgahbokaa", sum := "6d14354cde58ea4676ff56deab736d2801a0de63983daa91da6d1020044f2b8f", func := "loop.example/g01379/laws.FnExactTransposeSquare", spec := "fnExactTransposeSquare", unfollowed := true, recurses := true, apart := false, narrowed := true }
def FnExactTransposeSquareUptoSaid : Prop := fnExactTransposeSquareUptoRow.holds Try.pinned (OpenSpec.upto fnExactTransposeSquareSpec)

/-- 'laws.FnExactJoinSchedules', WHERE WHAT IT READS IS OF BULK AT MOST 1048576: true; the input reads as it did. -/
def fnExactJoinSchedulesUptoRow : OpenClaim := { program := "ytpaaoafgahbokaa", sum := "6d14354cde58ea4676ff56deab736d2801a0de63983daa91da6d1020044f2b8f", func := "loop.example/g01379/laws.FnExactJoinSchedules", spec := "fnExactJoinSchedules", unfollowed := true, recurses := true, apart := false, narrowed := true }
def FnExactJoinSchedulesUptoSaid : Prop := fnExactJoinSchedulesUptoRow.holds Try.pinned (OpenSpec.upto fnExactJoinSchedulesSpec)

/-- 'laws.FnExactFirstVenues', WHERE WHAT IT READS IS OF BULK AT MOST 1048576: true; the input reads as it did. -/
def fnExactFirstVenuesUptoRow : OpenClaim := { program := "ytpaaoafgahbokaa", sum := "6d14354cde58ea4676ff56deab736d2801a0de63983daa91da6d1020044f2b8f", func := "loop.example/g01379/laws.FnExactFirstVenues", spec := "fnExactFirstVenues", unfollowed := true, recurses := true, apart := false, narrowed := true }
def FnExactFirstVenuesUptoSaid : Prop := fnExactFirstVenuesUptoRow.holds Try.pinned (OpenSpec.upto fnExactFirstVenuesSpec)

/-- 'laws.FnExactAreVenues', WHERE WHAT IT READS IS OF BULK AT MOST 1048576: true; the input reads as it did. -/
def fnExactAreVenuesUptoRow : OpenClaim := { program := "ytpaaoafgahbokaa", sum := "6d14354cde58ea4676ff56deab736d2801a0de63983daa91da6d1020044f2b8f", func := "loop.example/g01379/laws.FnExactAreVenues", spec := "fnExactAreVenues", unfollowed := true, recurses := true, apart := false, narrowed := true }
def FnExactAreVenuesUptoSaid : Prop := fnExactAreVenuesUptoRow.holds Try.pinned (OpenSpec.upto fnExactAreVenuesSpec)

/-- 'laws.FnExactFewestBreaks', WHERE WHAT IT READS IS OF BULK AT MOST 1048576: true; the input reads as it did. -/
def fnExactFewestBreaksUptoRow : OpenClaim := { program := "ytpaaoafgahbokaa", sum := "6d14354cde58ea4676ff56deab736d2801a0de63983daa91da6d1020044f2b8f", func := "loop.example/g01379/laws.FnExactFewestBreaks", spec := "fnExactFewestBreaks", unfollowed := true, recurses := true, apart := false, narrowed := true }
def FnExactFewestBreaksUptoSaid : Prop := fnExactFewestBreaksUptoRow.holds Try.pinned (OpenSpec.upto fnExactFewestBreaksSpec)

/-- 'laws.FnExactScheduleOfStarter', WHERE WHAT IT READS IS OF BULK AT MOST 1048576: true; the input reads as it did. -/
def fnExactScheduleOfStarterUptoRow : OpenClaim := { program := "ytpaaoafgahbokaa", sum := "6d14354cde58ea4676ff56deab736d2801a0de63983daa91da6d1020044f2b8f", func := "loop.example/g01379/laws.FnExactScheduleOfStarter", spec := "fnExactScheduleOfStarter", unfollowed := true, recurses := true, apart := false, narrowed := true }
def FnExactScheduleOfStarterUptoSaid : Prop := fnExactScheduleOfStarterUptoRow.holds Try.pinned (OpenSpec.upto fnExactScheduleOfStarterSpec)

/-- 'laws.FnExactRowsOf', WHERE WHAT IT READS IS OF BULK AT MOST 1048576: true; the input reads as it did. -/
def fnExactRowsOfUptoRow : OpenClaim := { program := "ytpaaoafgahbokaa", sum := "6d14354cde58ea4676ff56deab736d2801a0de63983daa91da6d1020044f2b8f", func := "loop.example/g01379/laws.FnExactRowsOf", spec := "fnExactRowsOf", unfollowed := true, recurses := true, apart := false, narrowed := true }
def FnExactRowsOfUptoSaid : Prop := fnExactRowsOfUptoRow.holds Try.pinned (OpenSpec.upto fnExactRowsOfSpec)

/-- 'laws.FnExactAreOpposite', WHERE WHAT IT READS IS OF BULK AT MOST 1048576: true; the input reads as it did. -/
def fnExactAreOppositeUptoRow : OpenClaim := { program := "ytpaaoafgahbokaa", sum := "6d14354cde58ea4676ff56deab736d2801a0de63983daa91da6d1020044f2b8f", func := "loop.example/g01379/laws.FnExactAreOpposite", spec := "fnExactAreOpposite", unfollowed := true, recurses := true, apart := false, narrowed := true }
def FnExactAreOppositeUptoSaid : Prop := fnExactAreOppositeUptoRow.holds Try.pinned (OpenSpec.upto fnExactAreOppositeSpec)

/-- 'laws.FnExactSquareOfSchedules', WHERE WHAT IT READS IS OF BULK AT MOST 1048576: true; the input reads as it did. -/
def fnExactSquareOfSchedulesUptoRow : OpenClaim := { program := "ytpaaoafgahbokaa", sum := "6d14354cde58ea4676ff56deab736d2801a0de63983daa91da6d1020044f2b8f", func := "loop.example/g01379/laws.FnExactSquareOfSchedules", spec := "fnExactSquareOfSchedules", unfollowed := true, recurses := true, apart := false, narrowed := true }
def FnExactSquareOfSchedulesUptoSaid : Prop := fnExactSquareOfSchedulesUptoRow.holds Try.pinned (OpenSpec.upto fnExactSquareOfSchedulesSpec)

/-- 'laws.FnExactColumnsOf', WHERE WHAT IT READS IS OF BULK AT MOST 1048576: true; the input reads as it did. -/
def fnExactColumnsOfUptoRow : OpenClaim := { program := "ytpaaoafgahbokaa", sum := "6d14354cde58ea4676ff56deab736d2801a0de63983daa91da6d1020044f2b8f", func := "loop.example/g01379/laws.FnExactColumnsOf", spec := "fnExactColumnsOf", unfollowed := true, recurses := true, apart := false, narrowed := true }
def FnExactColumnsOfUptoSaid : Prop := fnExactColumnsOfUptoRow.holds Try.pinned (OpenSpec.upto fnExactColumnsOfSpec)

/-- 'laws.FnExactComponentsOf', WHERE WHAT IT READS IS OF BULK AT MOST 1048576: true; the input reads as it did. -/
def fnExactComponentsOfUptoRow : OpenClaim := { program := "ytpaaoafgahbokaa", sum := "6d14354cde58ea4676ff56deab736d2801a0de63983daa91da6d1020044f2b8f", func := "loop.example/g01379/laws.FnExactComponentsOf", spec := "fnExactComponentsOf", recurses := true, apart := false, narrowed := true }
def FnExactComponentsOfUptoSaid : Prop := fnExactComponentsOfUptoRow.holds Try.pinned (OpenSpec.upto fnExactComponentsOfSpec)

/-- 'laws.FnExactTypeOfRounds', WHERE WHAT IT READS IS OF BULK AT MOST 1048576: true; the input reads as it did. -/
def fnExactTypeOfRoundsUptoRow : OpenClaim := { program := "ytpaaoafgahbokaa", sum := "6d14354cde58ea4676ff56deab736d2801a0de63983daa91da6d1020044f2b8f", func := "loop.example/g01379/laws.FnExactTypeOfRounds", spec := "fnExactTypeOfRounds", recurses := true, apart := false, narrowed := true }
def FnExactTypeOfRoundsUptoSaid : Prop := fnExactTypeOfRoundsUptoRow.holds Try.pinned (OpenSpec.upto fnExactTypeOfRoundsSpec)

end Rows
end Go.Proofs.Ytpaaoafgahbokaa
