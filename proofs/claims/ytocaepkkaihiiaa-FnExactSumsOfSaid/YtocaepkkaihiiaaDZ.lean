/-
  What functions of the program compute, printed by a program. No condition.
-/
import Derived.Test.YtocaepkkaihiiaaDS
namespace Go.Proofs.Ytocaepkkaihiiaa
open Go Am
set_option linter.unusedVariables false
def D_laws_FnExactIsStarter (fu : Nat) (a0 : Int) (a1 : List (List Int)) : Option Bool :=
 (D_laws_szInt64SS fu a1 1048576).bind fun x100 =>
 bif decide (x100 < 0) then
 (some true)
 else
 ((D_laws_toInt64SS fu a1).bind fun rs107 =>
 (D_spec_IsStarter fu a0 rs107).bind fun b121 =>
 (D_laws_toInt64SS fu a1).bind fun rs125 =>
 (D_impl_IsStarter fu a0 rs125).bind fun b139 =>
 bif !(b139 == b121) then
 (some false)
 else
 ((D_laws_toInt64SS fu a1).bind fun rs146 =>
 (D_laws_eqInt64SS fu rs125 rs146).bind fun b160 =>
 bif !b160 then
 (some false)
 else
 (some true)))
def D_laws_FnExactSumsOf (fu : Nat) (a0 : Int) (a1 : List (List Int)) : Option Bool :=
 (D_laws_szInt64SS fu a1 1048576).bind fun x100 =>
 bif decide (x100 < 0) then
 (some true)
 else
 ((D_laws_toInt64SS fu a1).bind fun rs107 =>
 (D_spec_SumsOf fu a0 rs107).bind fun (xs121, x122) =>
 (D_laws_toInt64SS fu a1).bind fun rs133 =>
 (D_impl_SumsOf fu a0 rs133).bind fun (xs147, x148) =>
 ((D_laws_eqInt64S fu xs147 xs121).bind fun b173 =>
 bif !b173 then
 (some true)
 else
 (some (!decide (x148 = x122)))).bind fun b169 =>
 bif b169 then
 (some false)
 else
 ((D_laws_toInt64SS fu a1).bind fun rs196 =>
 (D_laws_eqInt64SS fu rs133 rs196).bind fun b210 =>
 bif !b210 then
 (some false)
 else
 ((D_laws_markInt64SS fu rs133 1).bind fun (x219, rs220) =>
 (bif decide (x219 < 0) then
 (some true)
 else
 ((D_laws_eqInt64S fu xs147 xs121).bind fun b253 =>
 bif !b253 then
 (some true)
 else
 (some (!decide (x148 = x122))))).bind fun b243 =>
 bif b243 then
 (some false)
 else
 ((D_laws_markInt64S fu xs147 1).bind fun (x273, xs274) =>
 (D_laws_heldInt64S fu xs274 1).bind fun x282 =>
 bif decide (x282 < 0) then
 (some false)
 else
 (bif !decide (x282 = x273) then
 (some false)
 else
 ((D_laws_toInt64SS fu a1).bind fun rs292 =>
 (D_impl_SumsOf fu a0 rs292).bind fun (xs306, x307) =>
 ((D_laws_eqInt64S fu xs306 xs121).bind fun b330 =>
 bif !b330 then
 (some true)
 else
 (some (!decide (x307 = x122)))).bind fun b326 =>
 bif b326 then
 (some false)
 else
 ((D_laws_heldInt64S fu xs274 1).bind fun x347 =>
 bif decide (x347 < 0) then
 (some false)
 else
 (bif !decide (x347 = x273) then
 (some false)
 else
 (some true)))))))))
end Go.Proofs.Ytocaepkkaihiiaa
