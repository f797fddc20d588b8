/-
  What functions of the program compute, printed by a program. No condition.
-/
import Derived.Test.YtpaaoafgahbokaaDJ
namespace Go.Proofs.Ytpaaoafgahbokaa
open Go Am
set_option linter.unusedVariables false
def D_laws_FnExactScheduleOfStarter (fu : Nat) (a0 : Int) (a1 : List (List Int)) : Option Bool :=
 (D_laws_szInt64SS fu a1 1048576).bind fun x100 =>
 bif decide (x100 < 0) then
 (some true)
 else
 ((D_laws_toInt64SS fu a1).bind fun rs107 =>
 (D_spec_ScheduleOfStarter fu a0 rs107).bind fun (x121, rs122, x123) =>
 (D_laws_toInt64SS fu a1).bind fun rs141 =>
 (D_impl_ScheduleOfStarter fu a0 rs141).bind fun (x155, rs156, x157) =>
 ((D_laws_eqSchedule fu x155 rs156 x121 rs122).bind fun b191 =>
 bif !b191 then
 (some true)
 else
 (some (!decide (x157 = x123)))).bind fun b187 =>
 bif b187 then
 (some false)
 else
 ((D_laws_toInt64SS fu a1).bind fun rs218 =>
 (D_laws_eqInt64SS fu rs141 rs218).bind fun b232 =>
 bif !b232 then
 (some false)
 else
 ((D_laws_markInt64SS fu rs141 1).bind fun (x241, rs242) =>
 (bif decide (x241 < 0) then
 (some true)
 else
 ((D_laws_eqSchedule fu x155 rs156 x121 rs122).bind fun b279 =>
 bif !b279 then
 (some true)
 else
 (some (!decide (x157 = x123))))).bind fun b267 =>
 bif b267 then
 (some false)
 else
 ((D_laws_markSchedule fu x155 rs156 1).bind fun (x303, rs304) =>
 (D_laws_heldSchedule fu x155 rs304 1).bind fun x313 =>
 bif decide (x313 < 0) then
 (some false)
 else
 (bif !decide (x313 = x303) then
 (some false)
 else
 ((D_laws_toInt64SS fu a1).bind fun rs323 =>
 (D_impl_ScheduleOfStarter fu a0 rs323).bind fun (x337, rs338, x339) =>
 ((D_laws_eqSchedule fu x337 rs338 x121 rs122).bind fun b370 =>
 bif !b370 then
 (some true)
 else
 (some (!decide (x339 = x123)))).bind fun b366 =>
 bif b366 then
 (some false)
 else
 ((D_laws_heldSchedule fu x155 rs304 1).bind fun x389 =>
 bif decide (x389 < 0) then
 (some false)
 else
 (bif !decide (x389 = x303) then
 (some false)
 else
 (some true)))))))))
end Go.Proofs.Ytpaaoafgahbokaa
