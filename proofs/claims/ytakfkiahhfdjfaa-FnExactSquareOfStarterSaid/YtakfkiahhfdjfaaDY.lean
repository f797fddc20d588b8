/-
  What functions of the program compute, printed by a program. No condition.
-/
import Derived.Test.YtakfkiahhfdjfaaDG
namespace Go.Proofs.Ytakfkiahhfdjfaa
open Go Am
set_option linter.unusedVariables false
def D_laws_FnExactIsAdder (fu : Nat) (a0 : Int) (a1 : List (List Int)) (a2 : List Int) : Option Bool :=
 bif decide (1048576 < ((a2.length : Nat) : Int)) then
 (some true)
 else
 ((D_laws_szInt64SS fu a1 1048576).bind fun x103 =>
 bif decide (x103 < 0) then
 (some true)
 else
 ((D_laws_toInt64SS fu a1).bind fun rs110 =>
 (D_laws_toInt64S fu a2).bind fun xs124 =>
 (D_spec_IsAdder fu a0 rs110 xs124).bind fun (b135, x136) =>
 (D_laws_toInt64SS fu a1).bind fun rs140 =>
 (D_laws_toInt64S fu a2).bind fun xs154 =>
 (D_impl_IsAdder fu a0 rs140 xs154).bind fun (b165, x166) =>
 bif (!(b165 == b135)) || (!decide (x166 = x136)) then
 (some false)
 else
 ((D_laws_toInt64SS fu a1).bind fun rs178 =>
 (D_laws_eqInt64SS fu rs140 rs178).bind fun b192 =>
 bif !b192 then
 (some false)
 else
 ((D_laws_toInt64S fu a2).bind fun xs199 =>
 (D_laws_eqInt64S fu xs154 xs199).bind fun b210 =>
 bif !b210 then
 (some false)
 else
 (some true)))))
def D_laws_FnExactAreOrthogonal (fu : Nat) (a0 : Int) (a1 : List (List Int)) (a2 : List (List Int)) : Option Bool :=
 (D_laws_szInt64SS fu a1 1048576).bind fun x100 =>
 bif decide (x100 < 0) then
 (some true)
 else
 ((D_laws_szInt64SS fu a2 x100).bind fun x107 =>
 bif decide (x107 < 0) then
 (some true)
 else
 ((D_laws_toInt64SS fu a1).bind fun rs114 =>
 (D_laws_toInt64SS fu a2).bind fun rs128 =>
 (D_spec_AreOrthogonal fu a0 rs114 rs128).bind fun (b142, x143) =>
 (D_laws_toInt64SS fu a1).bind fun rs147 =>
 (D_laws_toInt64SS fu a2).bind fun rs161 =>
 (D_impl_AreOrthogonal fu a0 rs147 rs161).bind fun (b175, x176) =>
 bif (!(b175 == b142)) || (!decide (x176 = x143)) then
 (some false)
 else
 ((D_laws_toInt64SS fu a1).bind fun rs188 =>
 (D_laws_eqInt64SS fu rs147 rs188).bind fun b202 =>
 bif !b202 then
 (some false)
 else
 ((D_laws_toInt64SS fu a2).bind fun rs209 =>
 (D_laws_eqInt64SS fu rs161 rs209).bind fun b223 =>
 bif !b223 then
 (some false)
 else
 (some true)))))
end Go.Proofs.Ytakfkiahhfdjfaa
