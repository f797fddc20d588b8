/-
  What functions of the program compute, printed by a program. No condition.
-/
import Derived.Test.YtocaepkkaihiiaaDC
import Derived.Test.YtocaepkkaihiiaaDE
namespace Go.Proofs.Ytocaepkkaihiiaa
open Go Am
set_option linter.unusedVariables false
def D_laws_FnExactPairsOf (fu : Nat) (a0 : Int) (a1 : List Int) : Option Bool :=
 (D_laws_toRound fu a1).bind fun xs104 =>
 (D_spec_PairsOf fu a0 xs104).bind fun (rs110, x111) =>
 (D_laws_toRound fu a1).bind fun xs125 =>
 (D_impl_PairsOf fu a0 xs125).bind fun (rs131, x132) =>
 ((D_laws_eqInt64SS fu rs131 rs110).bind fun b160 =>
 bif !b160 then
 (some true)
 else
 (some (!decide (x132 = x111)))).bind fun b156 =>
 bif b156 then
 (some false)
 else
 ((D_laws_markInt64SS fu rs131 1).bind fun (x185, rs186) =>
 (D_laws_heldInt64SS fu rs186 1).bind fun x197 =>
 bif decide (x197 < 0) then
 (some false)
 else
 (bif !decide (x197 = x185) then
 (some false)
 else
 ((D_laws_toRound fu a1).bind fun xs207 =>
 (D_impl_PairsOf fu a0 xs207).bind fun (rs213, x214) =>
 ((D_laws_eqInt64SS fu rs213 rs110).bind fun b240 =>
 bif !b240 then
 (some true)
 else
 (some (!decide (x214 = x111)))).bind fun b236 =>
 bif b236 then
 (some false)
 else
 ((D_laws_heldInt64SS fu rs186 1).bind fun x259 =>
 bif decide (x259 < 0) then
 (some false)
 else
 (bif !decide (x259 = x185) then
 (some false)
 else
 (some true))))))
def D_laws_FnExactCircleOf (fu : Nat) (a0 : Int) : Option Bool :=
 (D_spec_CircleOf fu a0).bind fun (x100, rs101, x102) =>
 (D_impl_CircleOf fu a0).bind fun (x120, rs121, x122) =>
 ((D_laws_eqSchedule fu x120 rs121 x100 rs101).bind fun b155 =>
 bif !b155 then
 (some true)
 else
 (some (!decide (x122 = x102)))).bind fun b151 =>
 bif b151 then
 (some false)
 else
 ((D_laws_markSchedule fu x120 rs121 1).bind fun (x177, rs178) =>
 (D_laws_heldSchedule fu x120 rs178 1).bind fun x187 =>
 bif decide (x187 < 0) then
 (some false)
 else
 (bif !decide (x187 = x177) then
 (some false)
 else
 ((D_impl_CircleOf fu a0).bind fun (x197, rs198, x199) =>
 ((D_laws_eqSchedule fu x197 rs198 x100 rs101).bind fun b230 =>
 bif !b230 then
 (some true)
 else
 (some (!decide (x199 = x102)))).bind fun b226 =>
 bif b226 then
 (some false)
 else
 ((D_laws_heldSchedule fu x120 rs178 1).bind fun x249 =>
 bif decide (x249 < 0) then
 (some false)
 else
 (bif !decide (x249 = x177) then
 (some false)
 else
 (some true))))))
def D_laws_FnExactRoundOf (fu : Nat) (a0 : Int) (a1 : List (List Int)) : Option Bool :=
 (D_laws_szInt64SS fu a1 1048576).bind fun x100 =>
 bif decide (x100 < 0) then
 (some true)
 else
 ((D_laws_toInt64SS fu a1).bind fun rs107 =>
 (D_spec_RoundOf fu a0 rs107).bind fun (xs121, x122) =>
 (D_laws_toInt64SS fu a1).bind fun rs134 =>
 (D_impl_RoundOf fu a0 rs134).bind fun (xs148, x149) =>
 ((D_laws_eqRound fu xs148 xs121).bind fun b173 =>
 bif !b173 then
 (some true)
 else
 (some (!decide (x149 = x122)))).bind fun b169 =>
 bif b169 then
 (some false)
 else
 ((D_laws_toInt64SS fu a1).bind fun rs192 =>
 (D_laws_eqInt64SS fu rs134 rs192).bind fun b206 =>
 bif !b206 then
 (some false)
 else
 (some true)))
def D_laws_FnExactIsSquare (fu : Nat) (a0_0 : Int) (a0_1 : List (List Int)) : Option Bool :=
 (D_laws_szSquare fu a0_0 a0_1 1048576).bind fun x104 =>
 bif decide (x104 < 0) then
 (some true)
 else
 ((D_laws_toSquare fu a0_0 a0_1).bind fun (x111, rs112) =>
 (D_spec_IsSquare fu x111 rs112).bind fun b126 =>
 (D_laws_toSquare fu a0_0 a0_1).bind fun (x130, rs131) =>
 (D_impl_IsSquare fu x130 rs131).bind fun b151 =>
 bif !(b151 == b126) then
 (some false)
 else
 ((D_laws_toSquare fu a0_0 a0_1).bind fun (x158, rs159) =>
 (D_laws_eqSquare fu x130 rs131 x158 rs159).bind fun b173 =>
 bif !b173 then
 (some false)
 else
 (some true)))
def D_laws_FnExactCellOf (fu : Nat) (a0_0 : Int) (a0_1 : List (List Int)) (a1 : Int) (a2 : Int) : Option Bool :=
 (D_laws_szSquare fu a0_0 a0_1 1048576).bind fun x104 =>
 bif decide (x104 < 0) then
 (some true)
 else
 ((D_laws_toSquare fu a0_0 a0_1).bind fun (x111, rs112) =>
 (D_spec_CellOf fu x111 rs112 a1 a2).bind fun (x126, x127, x128) =>
 (D_laws_toSquare fu a0_0 a0_1).bind fun (x132, rs133) =>
 (D_impl_CellOf fu x132 rs133 a1 a2).bind fun (x153, x154, x155) =>
 bif (!decide (x153 = x126)) || ((!decide (x154 = x127)) || (!decide (x155 = x128))) then
 (some false)
 else
 ((D_laws_toSquare fu a0_0 a0_1).bind fun (x171, rs172) =>
 (D_laws_eqSquare fu x132 rs133 x171 rs172).bind fun b186 =>
 bif !b186 then
 (some false)
 else
 (some true)))
end Go.Proofs.Ytocaepkkaihiiaa
