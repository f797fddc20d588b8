/-
  What functions of the program compute, printed by a program. No condition.
-/
import Derived.Test.YtpaaoafgahbokaaDF
namespace Go.Proofs.Ytpaaoafgahbokaa
open Go Am
set_option linter.unusedVariables false
def D_laws_FnExactTransposeSquare (fu : Nat) (a0_0 : Int) (a0_1 : List (List Int)) : Option Bool :=
 (D_laws_szSquare fu a0_0 a0_1 1048576).bind fun x104 =>
 bif decide (x104 < 0) then
 (some true)
 else
 ((D_laws_toSquare fu a0_0 a0_1).bind fun (x111, rs112) =>
 (D_spec_TransposeSquare fu x111 rs112).bind fun (x126, rs127, x128) =>
 (D_laws_toSquare fu a0_0 a0_1).bind fun (x148, rs149) =>
 (D_impl_TransposeSquare fu x148 rs149).bind fun (x169, rs170, x171) =>
 ((D_laws_eqSquare fu x169 rs170 x126 rs127).bind fun b209 =>
 bif !b209 then
 (some true)
 else
 (some (!decide (x171 = x128)))).bind fun b205 =>
 bif b205 then
 (some false)
 else
 ((D_laws_toSquare fu a0_0 a0_1).bind fun (x244, rs245) =>
 (D_laws_eqSquare fu x148 rs149 x244 rs245).bind fun b259 =>
 bif !b259 then
 (some false)
 else
 ((D_laws_markSquare fu x148 rs149 1).bind fun (x268, rs269) =>
 (bif decide (x268 < 0) then
 (some true)
 else
 ((D_laws_eqSquare fu x169 rs170 x126 rs127).bind fun b310 =>
 bif !b310 then
 (some true)
 else
 (some (!decide (x171 = x128))))).bind fun b295 =>
 bif b295 then
 (some false)
 else
 ((D_laws_markSquare fu x169 rs170 1).bind fun (x341, rs342) =>
 (D_laws_heldSquare fu x169 rs342 1).bind fun x353 =>
 bif decide (x353 < 0) then
 (some false)
 else
 (bif !decide (x353 = x341) then
 (some false)
 else
 ((D_laws_toSquare fu a0_0 a0_1).bind fun (x363, rs364) =>
 (D_impl_TransposeSquare fu x363 rs364).bind fun (x378, rs379, x380) =>
 ((D_laws_eqSquare fu x378 rs379 x126 rs127).bind fun b413 =>
 bif !b413 then
 (some true)
 else
 (some (!decide (x380 = x128)))).bind fun b409 =>
 bif b409 then
 (some false)
 else
 ((D_laws_heldSquare fu x169 rs342 1).bind fun x434 =>
 bif decide (x434 < 0) then
 (some false)
 else
 (bif !decide (x434 = x341) then
 (some false)
 else
 (some true)))))))))
def D_laws_FnExactRowsOf (fu : Nat) (a0_0 : Int) (a0_1 : List (List Int)) : Option Bool :=
 (D_laws_szSquare fu a0_0 a0_1 1048576).bind fun x104 =>
 bif decide (x104 < 0) then
 (some true)
 else
 ((D_laws_toSquare fu a0_0 a0_1).bind fun (x111, rs112) =>
 (D_spec_RowsOf fu x111 rs112).bind fun (x126, rs127, x128) =>
 (D_laws_toSquare fu a0_0 a0_1).bind fun (x146, rs147) =>
 (D_impl_RowsOf fu x146 rs147).bind fun (x167, rs168, x169) =>
 ((D_laws_eqSchedule fu x167 rs168 x126 rs127).bind fun b205 =>
 bif !b205 then
 (some true)
 else
 (some (!decide (x169 = x128)))).bind fun b201 =>
 bif b201 then
 (some false)
 else
 ((D_laws_toSquare fu a0_0 a0_1).bind fun (x236, rs237) =>
 (D_laws_eqSquare fu x146 rs147 x236 rs237).bind fun b251 =>
 bif !b251 then
 (some false)
 else
 ((D_laws_markSquare fu x146 rs147 1).bind fun (x260, rs261) =>
 (bif decide (x260 < 0) then
 (some true)
 else
 ((D_laws_eqSchedule fu x167 rs168 x126 rs127).bind fun b300 =>
 bif !b300 then
 (some true)
 else
 (some (!decide (x169 = x128))))).bind fun b287 =>
 bif b287 then
 (some false)
 else
 ((D_laws_markSchedule fu x167 rs168 1).bind fun (x326, rs327) =>
 (D_laws_heldSchedule fu x167 rs327 1).bind fun x336 =>
 bif decide (x336 < 0) then
 (some false)
 else
 (bif !decide (x336 = x326) then
 (some false)
 else
 ((D_laws_toSquare fu a0_0 a0_1).bind fun (x346, rs347) =>
 (D_impl_RowsOf fu x346 rs347).bind fun (x361, rs362, x363) =>
 ((D_laws_eqSchedule fu x361 rs362 x126 rs127).bind fun b394 =>
 bif !b394 then
 (some true)
 else
 (some (!decide (x363 = x128)))).bind fun b390 =>
 bif b390 then
 (some false)
 else
 ((D_laws_heldSchedule fu x167 rs327 1).bind fun x413 =>
 bif decide (x413 < 0) then
 (some false)
 else
 (bif !decide (x413 = x326) then
 (some false)
 else
 (some true)))))))))
def D_laws_FnExactColumnsOf (fu : Nat) (a0_0 : Int) (a0_1 : List (List Int)) : Option Bool :=
 (D_laws_szSquare fu a0_0 a0_1 1048576).bind fun x104 =>
 bif decide (x104 < 0) then
 (some true)
 else
 ((D_laws_toSquare fu a0_0 a0_1).bind fun (x111, rs112) =>
 (D_spec_ColumnsOf fu x111 rs112).bind fun (x126, rs127, x128) =>
 (D_laws_toSquare fu a0_0 a0_1).bind fun (x146, rs147) =>
 (D_impl_ColumnsOf fu x146 rs147).bind fun (x167, rs168, x169) =>
 ((D_laws_eqSchedule fu x167 rs168 x126 rs127).bind fun b205 =>
 bif !b205 then
 (some true)
 else
 (some (!decide (x169 = x128)))).bind fun b201 =>
 bif b201 then
 (some false)
 else
 ((D_laws_toSquare fu a0_0 a0_1).bind fun (x236, rs237) =>
 (D_laws_eqSquare fu x146 rs147 x236 rs237).bind fun b251 =>
 bif !b251 then
 (some false)
 else
 ((D_laws_markSquare fu x146 rs147 1).bind fun (x260, rs261) =>
 (bif decide (x260 < 0) then
 (some true)
 else
 ((D_laws_eqSchedule fu x167 rs168 x126 rs127).bind fun b300 =>
 bif !b300 then
 (some true)
 else
 (some (!decide (x169 = x128))))).bind fun b287 =>
 bif b287 then
 (some false)
 else
 ((D_laws_markSchedule fu x167 rs168 1).bind fun (x326, rs327) =>
 (D_laws_heldSchedule fu x167 rs327 1).bind fun x336 =>
 bif decide (x336 < 0) then
 (some false)
 else
 (bif !decide (x336 = x326) then
 (some false)
 else
 ((D_laws_toSquare fu a0_0 a0_1).bind fun (x346, rs347) =>
 (D_impl_ColumnsOf fu x346 rs347).bind fun (x361, rs362, x363) =>
 ((D_laws_eqSchedule fu x361 rs362 x126 rs127).bind fun b394 =>
 bif !b394 then
 (some true)
 else
 (some (!decide (x363 = x128)))).bind fun b390 =>
 bif b390 then
 (some false)
 else
 ((D_laws_heldSchedule fu x167 rs327 1).bind fun x413 =>
 bif decide (x413 < 0) then
 (some false)
 else
 (bif !decide (x413 = x326) then
 (some false)
 else
 (some true)))))))))
end Go.Proofs.Ytpaaoafgahbokaa
