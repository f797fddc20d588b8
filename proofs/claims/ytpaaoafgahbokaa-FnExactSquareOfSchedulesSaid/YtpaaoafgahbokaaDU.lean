/-
  What functions of the program compute, printed by a program. No condition.
-/
import Derived.Test.YtpaaoafgahbokaaDI
namespace Go.Proofs.Ytpaaoafgahbokaa
open Go Am
set_option linter.unusedVariables false
def D_laws_FnExactSquareOfSchedules (fu : Nat) (a0_0 : Int) (a0_1 : List (List Int)) (a1_0 : Int) (a1_1 : List (List Int)) : Option Bool :=
 (D_laws_szSchedule fu a0_0 a0_1 1048576).bind fun x108 =>
 bif decide (x108 < 0) then
 (some true)
 else
 ((D_laws_szSchedule fu a1_0 a1_1 x108).bind fun x115 =>
 bif decide (x115 < 0) then
 (some true)
 else
 ((D_laws_toSchedule fu a0_0 a0_1).bind fun (x122, rs123) =>
 (D_laws_toSchedule fu a1_0 a1_1).bind fun (x135, rs136) =>
 (D_spec_SquareOfSchedules fu x122 rs123 x135 rs136).bind fun (x148, rs149, x150) =>
 (D_laws_toSchedule fu a0_0 a0_1).bind fun (x170, rs171) =>
 (D_laws_toSchedule fu a1_0 a1_1).bind fun (x189, rs190) =>
 (D_impl_SquareOfSchedules fu x170 rs171 x189 rs190).bind fun (x208, rs209, x210) =>
 ((D_laws_eqSquare fu x208 rs209 x148 rs149).bind fun b251 =>
 bif !b251 then
 (some true)
 else
 (some (!decide (x210 = x150)))).bind fun b247 =>
 bif b247 then
 (some false)
 else
 ((D_laws_toSchedule fu a0_0 a0_1).bind fun (x290, rs291) =>
 (D_laws_eqSchedule fu x170 rs171 x290 rs291).bind fun b303 =>
 bif !b303 then
 (some false)
 else
 ((D_laws_toSchedule fu a1_0 a1_1).bind fun (x310, rs311) =>
 (D_laws_eqSchedule fu x189 rs190 x310 rs311).bind fun b323 =>
 bif !b323 then
 (some false)
 else
 ((D_laws_markSchedule fu x170 rs171 1).bind fun (x331, rs332) =>
 (D_laws_markSchedule fu x189 rs190 x331).bind fun (x342, rs343) =>
 (bif decide (x342 < 0) then
 (some true)
 else
 ((D_laws_eqSquare fu x208 rs209 x148 rs149).bind fun b384 =>
 bif !b384 then
 (some true)
 else
 (some (!decide (x210 = x150))))).bind fun b368 =>
 bif b368 then
 (some false)
 else
 ((D_laws_markSquare fu x208 rs209 1).bind fun (x417, rs418) =>
 (D_laws_heldSquare fu x208 rs418 1).bind fun x429 =>
 bif decide (x429 < 0) then
 (some false)
 else
 (bif !decide (x429 = x417) then
 (some false)
 else
 ((D_laws_toSchedule fu a0_0 a0_1).bind fun (x439, rs440) =>
 (D_laws_toSchedule fu a1_0 a1_1).bind fun (x452, rs453) =>
 (D_impl_SquareOfSchedules fu x439 rs440 x452 rs453).bind fun (x465, rs466, x467) =>
 ((D_laws_eqSquare fu x465 rs466 x148 rs149).bind fun b500 =>
 bif !b500 then
 (some true)
 else
 (some (!decide (x467 = x150)))).bind fun b496 =>
 bif b496 then
 (some false)
 else
 ((D_laws_heldSquare fu x208 rs418 1).bind fun x521 =>
 bif decide (x521 < 0) then
 (some false)
 else
 (bif !decide (x521 = x417) then
 (some false)
 else
 (some true)))))))))))
end Go.Proofs.Ytpaaoafgahbokaa
