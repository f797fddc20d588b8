/-
  What functions of the program compute, printed by a program. No condition.
-/
import Derived.Test.YtnmbjedijgcncaaDG
namespace Go.Proofs.Ytnmbjedijgcncaa
open Go Am
set_option linter.unusedVariables false
def D_laws_FnExactComponentsOf (fu : Nat) (a0 : Int) (a1 : List Int) (a2 : List Int) : Option Bool :=
 (D_laws_toRound fu a1).bind fun xs108 =>
 (D_laws_toRound fu a2).bind fun xs114 =>
 (D_spec_ComponentsOf fu a0 xs108 xs114).bind fun (rs120, x121) =>
 (D_laws_toRound fu a1).bind fun xs135 =>
 (D_laws_toRound fu a2).bind fun xs141 =>
 (D_impl_ComponentsOf fu a0 xs135 xs141).bind fun (rs147, x148) =>
 ((D_laws_eqInt64SS fu rs147 rs120).bind fun b177 =>
 bif !b177 then
 (some true)
 else
 (some (!decide (x148 = x121)))).bind fun b173 =>
 bif b173 then
 (some false)
 else
 ((D_laws_markInt64SS fu rs147 1).bind fun (x204, rs205) =>
 (D_laws_heldInt64SS fu rs205 1).bind fun x216 =>
 bif decide (x216 < 0) then
 (some false)
 else
 (bif !decide (x216 = x204) then
 (some false)
 else
 ((D_laws_toRound fu a1).bind fun xs226 =>
 (D_laws_toRound fu a2).bind fun xs232 =>
 (D_impl_ComponentsOf fu a0 xs226 xs232).bind fun (rs238, x239) =>
 ((D_laws_eqInt64SS fu rs238 rs120).bind fun b265 =>
 bif !b265 then
 (some true)
 else
 (some (!decide (x239 = x121)))).bind fun b261 =>
 bif b261 then
 (some false)
 else
 ((D_laws_heldInt64SS fu rs205 1).bind fun x284 =>
 bif decide (x284 < 0) then
 (some false)
 else
 (bif !decide (x284 = x204) then
 (some false)
 else
 (some true))))))
def D_laws_FnExactTypeOfRounds (fu : Nat) (a0 : Int) (a1 : List Int) (a2 : List Int) : Option Bool :=
 (D_laws_toRound fu a1).bind fun xs108 =>
 (D_laws_toRound fu a2).bind fun xs114 =>
 (D_spec_TypeOfRounds fu a0 xs108 xs114).bind fun (xs120, x121) =>
 (D_laws_toRound fu a1).bind fun xs132 =>
 (D_laws_toRound fu a2).bind fun xs138 =>
 (D_impl_TypeOfRounds fu a0 xs132 xs138).bind fun (xs144, x145) =>
 ((D_laws_eqInt64S fu xs144 xs120).bind fun b171 =>
 bif !b171 then
 (some true)
 else
 (some (!decide (x145 = x121)))).bind fun b167 =>
 bif b167 then
 (some false)
 else
 ((D_laws_markInt64S fu xs144 1).bind fun (x193, xs194) =>
 (D_laws_heldInt64S fu xs194 1).bind fun x202 =>
 bif decide (x202 < 0) then
 (some false)
 else
 (bif !decide (x202 = x193) then
 (some false)
 else
 ((D_laws_toRound fu a1).bind fun xs212 =>
 (D_laws_toRound fu a2).bind fun xs218 =>
 (D_impl_TypeOfRounds fu a0 xs212 xs218).bind fun (xs224, x225) =>
 ((D_laws_eqInt64S fu xs224 xs120).bind fun b248 =>
 bif !b248 then
 (some true)
 else
 (some (!decide (x225 = x121)))).bind fun b244 =>
 bif b244 then
 (some false)
 else
 ((D_laws_heldInt64S fu xs194 1).bind fun x265 =>
 bif decide (x265 < 0) then
 (some false)
 else
 (bif !decide (x265 = x193) then
 (some false)
 else
 (some true))))))
end Go.Proofs.Ytnmbjedijgcncaa
