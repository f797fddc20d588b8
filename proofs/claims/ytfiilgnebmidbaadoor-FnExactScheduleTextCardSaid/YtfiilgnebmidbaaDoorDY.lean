/-
  What functions of the program compute, printed by a program. No condition.
-/
import Derived.Test.YtfiilgnebmidbaaDoorDG
namespace Go.Proofs.YtfiilgnebmidbaaDoor
open Go Am
set_option linter.unusedVariables false
def D_laws_FnExactScheduleText (fu : Nat) (a0_0 : Int) (a0_1 : List (List Int)) : Option Bool :=
 (D_laws_szSchedule fu a0_0 a0_1 1048576).bind fun x104 =>
 bif decide (x104 < 0) then
 (some true)
 else
 ((D_laws_toSchedule fu a0_0 a0_1).bind fun (x111, rs112) =>
 (D_spec_ScheduleText fu x111 rs112).bind fun (s124, x125) =>
 (D_laws_toSchedule fu a0_0 a0_1).bind fun (x129, rs130) =>
 (D_impl_ScheduleText fu x129 rs130).bind fun (s148, x149) =>
 bif (!((s148 : ByteArray).toList == (s124 : ByteArray).toList)) || (!decide (x149 = x125)) then
 (some false)
 else
 ((D_laws_toSchedule fu a0_0 a0_1).bind fun (x161, rs162) =>
 (D_laws_eqSchedule fu x129 rs130 x161 rs162).bind fun b174 =>
 bif !b174 then
 (some false)
 else
 (some true)))
end Go.Proofs.YtfiilgnebmidbaaDoor
