/-
  What functions of the program compute, printed by a program. No condition.
-/
import Derived.Test.YtpaaoafgahbokaaDQ
namespace Go.Proofs.Ytpaaoafgahbokaa
open Go Am
set_option linter.unusedVariables false
def D_laws_FnExactAreOpposite (fu : Nat) (a0_0 : Int) (a0_1 : List (List Int)) (a1 : List (List Int)) (a2 : Int) (a3 : Int) : Option Bool :=
 (D_laws_szSchedule fu a0_0 a0_1 1048576).bind fun x104 =>
 bif decide (x104 < 0) then
 (some true)
 else
 ((D_laws_szInt64SS fu a1 x104).bind fun x111 =>
 bif decide (x111 < 0) then
 (some true)
 else
 ((D_laws_toSchedule fu a0_0 a0_1).bind fun (x118, rs119) =>
 (D_laws_toInt64SS fu a1).bind fun rs131 =>
 (D_spec_AreOpposite fu x118 rs119 rs131 a2 a3).bind fun (b145, x146) =>
 (D_laws_toSchedule fu a0_0 a0_1).bind fun (x150, rs151) =>
 (D_laws_toInt64SS fu a1).bind fun rs169 =>
 (D_impl_AreOpposite fu x150 rs151 rs169 a2 a3).bind fun (b183, x184) =>
 bif (!(b183 == b145)) || (!decide (x184 = x146)) then
 (some false)
 else
 ((D_laws_toSchedule fu a0_0 a0_1).bind fun (x196, rs197) =>
 (D_laws_eqSchedule fu x150 rs151 x196 rs197).bind fun b209 =>
 bif !b209 then
 (some false)
 else
 ((D_laws_toInt64SS fu a1).bind fun rs216 =>
 (D_laws_eqInt64SS fu rs169 rs216).bind fun b230 =>
 bif !b230 then
 (some false)
 else
 (some true)))))
end Go.Proofs.Ytpaaoafgahbokaa
