/-
  DERIVED. GIVEN WITH THE SEED: THE CARDS: each row of YtfiilgnebmidbaaDoorRows.lean that lists a variable, with what it lists TIED to the program's text (the seventh form; the later family's looks); each row that meets fmt, with fmt's text TOLD by the authors' own Lean function (tested against real Go, not proved from fmt's source: count such statements apart). THE CARD IS WHAT COUNTS. Prove the row's statement (the work); the ties are given (YtfiilgnebmidbaaDoorTie.lean); close each card by the builder's one call (the guide's Derived/Test/ToyasCard.lean, 'card_holds'). Laid BY PROGRAM, IN A SANDBOX (cutbox-door.mjs). By AI agents, Wed Nov 11 2026. No macro, syntax, notation, axiom, sorry.
-/
import Derived.Test.YtfiilgnebmidbaaDoorRows
import GoSem.ClaimSeven
namespace Go.Proofs.YtfiilgnebmidbaaDoor
namespace Rows

/-- THE TIED CARD OF 'laws.FnExactSquareText'. -/
def fnExactSquareTextCard : Claim7 := { stood := { row := fnExactSquareTextRow, standIns := [], harness := (true, "b9732b5f92aa2f2fbf4008387f16427c24b792ad7fe628d8fcc030c776bf6c77"), looks := true }, kinds := [], alts := [], laidByText := true, laidKinds := [.data, .data, .data], laidTests := true, laidLooks := .later }
def FnExactSquareTextCardSaid : Prop := Claim7.holds Tryd.pinned (.plain (OpenSpec.ofChange fnExactSquareTextSpec)) fnExactSquareTextCard

/-- THE TIED CARD OF 'laws.FnExactScheduleText'. -/
def fnExactScheduleTextCard : Claim7 := { stood := { row := fnExactScheduleTextRow, standIns := [], harness := (true, "b9732b5f92aa2f2fbf4008387f16427c24b792ad7fe628d8fcc030c776bf6c77"), looks := true }, kinds := [], alts := [], laidByText := true, laidKinds := [.data, .data, .data], laidTests := true, laidLooks := .later }
def FnExactScheduleTextCardSaid : Prop := Claim7.holds Tryd.pinned (.plain (OpenSpec.ofChange fnExactScheduleTextSpec)) fnExactScheduleTextCard

/-- THE TIED CARD OF 'laws.FnExactParseSquare'. -/
def fnExactParseSquareCard : Claim7 := { stood := { row := fnExactParseSquareRow, standIns := [], harness := (true, "b9732b5f92aa2f2fbf4008387f16427c24b792ad7fe628d8fcc030c776bf6c77"), looks := true }, kinds := [], alts := [], laidByText := true, laidKinds := [.data, .data, .data, .data, .sentinel, .sentinel, .pinned], laidTests := true, laidLooks := .later }
def FnExactParseSquareCardSaid : Prop := Claim7.holds Tryd.pinned (.plain (OpenSpec.ofChange fnExactParseSquareSpec)) fnExactParseSquareCard

/-- THE TIED CARD OF 'laws.FnExactParseSchedule'. -/
def fnExactParseScheduleCard : Claim7 := { stood := { row := fnExactParseScheduleRow, standIns := [], harness := (true, "b9732b5f92aa2f2fbf4008387f16427c24b792ad7fe628d8fcc030c776bf6c77"), looks := true }, kinds := [], alts := [], laidByText := true, laidKinds := [.data, .data, .data, .data, .sentinel, .sentinel, .pinned], laidTests := true, laidLooks := .later }
def FnExactParseScheduleCardSaid : Prop := Claim7.holds Tryd.pinned (.plain (OpenSpec.ofChange fnExactParseScheduleSpec)) fnExactParseScheduleCard

/-- THE SECOND FORM's CARD OF 'laws.FnExactSquareText'. -/
def fnExactSquareTextUptoCard : Claim7 := { stood := { row := fnExactSquareTextUptoRow, standIns := [], harness := (true, "b9732b5f92aa2f2fbf4008387f16427c24b792ad7fe628d8fcc030c776bf6c77"), looks := true }, kinds := [], alts := [], laidByText := true, laidKinds := [.data, .data, .data], laidTests := true, laidLooks := .later }
def FnExactSquareTextUptoCardSaid : Prop := Claim7.holds Tryd.pinned (.plain (OpenSpec.upto fnExactSquareTextSpec)) fnExactSquareTextUptoCard

/-- THE SECOND FORM's CARD OF 'laws.FnExactScheduleText'. -/
def fnExactScheduleTextUptoCard : Claim7 := { stood := { row := fnExactScheduleTextUptoRow, standIns := [], harness := (true, "b9732b5f92aa2f2fbf4008387f16427c24b792ad7fe628d8fcc030c776bf6c77"), looks := true }, kinds := [], alts := [], laidByText := true, laidKinds := [.data, .data, .data], laidTests := true, laidLooks := .later }
def FnExactScheduleTextUptoCardSaid : Prop := Claim7.holds Tryd.pinned (.plain (OpenSpec.upto fnExactScheduleTextSpec)) fnExactScheduleTextUptoCard

/-- THE SECOND FORM's CARD OF 'laws.FnExactParseSquare'. -/
def fnExactParseSquareUptoCard : Claim7 := { stood := { row := fnExactParseSquareUptoRow, standIns := [], harness := (true, "b9732b5f92aa2f2fbf4008387f16427c24b792ad7fe628d8fcc030c776bf6c77"), looks := true }, kinds := [], alts := [], laidByText := true, laidKinds := [.data, .data, .data, .data, .sentinel, .sentinel, .pinned], laidTests := true, laidLooks := .later }
def FnExactParseSquareUptoCardSaid : Prop := Claim7.holds Tryd.pinned (.plain (OpenSpec.upto fnExactParseSquareSpec)) fnExactParseSquareUptoCard

/-- THE SECOND FORM's CARD OF 'laws.FnExactParseSchedule'. -/
def fnExactParseScheduleUptoCard : Claim7 := { stood := { row := fnExactParseScheduleUptoRow, standIns := [], harness := (true, "b9732b5f92aa2f2fbf4008387f16427c24b792ad7fe628d8fcc030c776bf6c77"), looks := true }, kinds := [], alts := [], laidByText := true, laidKinds := [.data, .data, .data, .data, .sentinel, .sentinel, .pinned], laidTests := true, laidLooks := .later }
def FnExactParseScheduleUptoCardSaid : Prop := Claim7.holds Tryd.pinned (.plain (OpenSpec.upto fnExactParseScheduleSpec)) fnExactParseScheduleUptoCard
end Rows
end Go.Proofs.YtfiilgnebmidbaaDoor
