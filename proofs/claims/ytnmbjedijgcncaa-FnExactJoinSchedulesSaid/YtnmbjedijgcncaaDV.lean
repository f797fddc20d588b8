/-
  What functions of the program compute, printed by a program. No condition.
-/
import Derived.Test.YtnmbjedijgcncaaDN
namespace Go.Proofs.Ytnmbjedijgcncaa
open Go Am
set_option linter.unusedVariables false
def D_laws_FnExactJoinSchedules (fu : Nat) (a0_0 : Int) (a0_1 : List (List Int)) (a1_0 : Int) (a1_1 : List (List Int)) : Option Bool :=
 (D_laws_szSchedule fu a0_0 a0_1 1048576).bind fun x108 =>
 bif decide (x108 < 0) then
 (some true)
 else
 ((D_laws_szSchedule fu a1_0 a1_1 x108).bind fun x115 =>
 bif decide (x115 < 0) then
 (some true)
 else
 ((D_laws_toSchedule fu a0_0 a0_1).bind fun (x122, rs123) =>
 (D_laws_toSchedule fu a1_0 a1_1).bind fun (x135, rs136) =>
 (D_spec_JoinSchedules fu x122 rs123 x135 rs136).bind fun (x148, rs149, x150) =>
 (D_laws_toSchedule fu a0_0 a0_1).bind fun (x168, rs169) =>
 (D_laws_toSchedule fu a1_0 a1_1).bind fun (x187, rs188) =>
 (D_impl_JoinSchedules fu x168 rs169 x187 rs188).bind fun (x206, rs207, x208) =>
 ((D_laws_eqSchedule fu x206 rs207 x148 rs149).bind fun b247 =>
 bif !b247 then
 (some true)
 else
 (some (!decide (x208 = x150)))).bind fun b243 =>
 bif b243 then
 (some false)
 else
 ((D_laws_toSchedule fu a0_0 a0_1).bind fun (x282, rs283) =>
 (D_laws_eqSchedule fu x168 rs169 x282 rs283).bind fun b295 =>
 bif !b295 then
 (some false)
 else
 ((D_laws_toSchedule fu a1_0 a1_1).bind fun (x302, rs303) =>
 (D_laws_eqSchedule fu x187 rs188 x302 rs303).bind fun b315 =>
 bif !b315 then
 (some false)
 else
 ((D_laws_markSchedule fu x168 rs169 1).bind fun (x323, rs324) =>
 (D_laws_markSchedule fu x187 rs188 x323).bind fun (x334, rs335) =>
 (bif decide (x334 < 0) then
 (some true)
 else
 ((D_laws_eqSchedule fu x206 rs207 x148 rs149).bind fun b374 =>
 bif !b374 then
 (some true)
 else
 (some (!decide (x208 = x150))))).bind fun b360 =>
 bif b360 then
 (some false)
 else
 ((D_laws_markSchedule fu x206 rs207 1).bind fun (x402, rs403) =>
 (D_laws_heldSchedule fu x206 rs403 1).bind fun x412 =>
 bif decide (x412 < 0) then
 (some false)
 else
 (bif !decide (x412 = x402) then
 (some false)
 else
 ((D_laws_toSchedule fu a0_0 a0_1).bind fun (x422, rs423) =>
 (D_laws_toSchedule fu a1_0 a1_1).bind fun (x435, rs436) =>
 (D_impl_JoinSchedules fu x422 rs423 x435 rs436).bind fun (x448, rs449, x450) =>
 ((D_laws_eqSchedule fu x448 rs449 x148 rs149).bind fun b481 =>
 bif !b481 then
 (some true)
 else
 (some (!decide (x450 = x150)))).bind fun b477 =>
 bif b477 then
 (some false)
 else
 ((D_laws_heldSchedule fu x206 rs403 1).bind fun x500 =>
 bif decide (x500 < 0) then
 (some false)
 else
 (bif !decide (x500 = x402) then
 (some false)
 else
 (some true)))))))))))
end Go.Proofs.Ytnmbjedijgcncaa
