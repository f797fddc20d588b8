/-
  What functions of the program compute, printed by a program. No condition.
-/
import Derived.Test.YtakfkiahhfdjfaaDJ
namespace Go.Proofs.Ytakfkiahhfdjfaa
open Go Am
set_option linter.unusedVariables false
def D_laws_FnExactSquareOfStarter (fu : Nat) (a0 : Int) (a1 : List (List Int)) (a2 : List Int) : Option Bool :=
 bif decide (1048576 < ((a2.length : Nat) : Int)) then
 (some true)
 else
 ((D_laws_szInt64SS fu a1 1048576).bind fun x103 =>
 bif decide (x103 < 0) then
 (some true)
 else
 ((D_laws_toInt64SS fu a1).bind fun rs110 =>
 (D_laws_toInt64S fu a2).bind fun xs124 =>
 (D_spec_SquareOfStarter fu a0 rs110 xs124).bind fun (x135, rs136, x137) =>
 (D_laws_toInt64SS fu a1).bind fun rs157 =>
 (D_laws_toInt64S fu a2).bind fun xs171 =>
 (D_impl_SquareOfStarter fu a0 rs157 xs171).bind fun (x182, rs183, x184) =>
 ((D_laws_eqSquare fu x182 rs183 x135 rs136).bind fun b221 =>
 bif !b221 then
 (some true)
 else
 (some (!decide (x184 = x137)))).bind fun b217 =>
 bif b217 then
 (some false)
 else
 ((D_laws_toInt64SS fu a1).bind fun rs254 =>
 (D_laws_eqInt64SS fu rs157 rs254).bind fun b268 =>
 bif !b268 then
 (some false)
 else
 ((D_laws_toInt64S fu a2).bind fun xs275 =>
 (D_laws_eqInt64S fu xs171 xs275).bind fun b286 =>
 bif !b286 then
 (some false)
 else
 ((D_laws_markInt64SS fu rs157 1).bind fun (x295, rs296) =>
 (D_laws_markInt64S fu xs171 x295).bind fun (x308, xs309) =>
 (bif decide (x308 < 0) then
 (some true)
 else
 ((D_laws_eqSquare fu x182 rs183 x135 rs136).bind fun b345 =>
 bif !b345 then
 (some true)
 else
 (some (!decide (x184 = x137))))).bind fun b331 =>
 bif b331 then
 (some false)
 else
 ((D_laws_markSquare fu x182 rs183 1).bind fun (x374, rs375) =>
 (D_laws_heldSquare fu x182 rs375 1).bind fun x386 =>
 bif decide (x386 < 0) then
 (some false)
 else
 (bif !decide (x386 = x374) then
 (some false)
 else
 ((D_laws_toInt64SS fu a1).bind fun rs396 =>
 (D_laws_toInt64S fu a2).bind fun xs410 =>
 (D_impl_SquareOfStarter fu a0 rs396 xs410).bind fun (x421, rs422, x423) =>
 ((D_laws_eqSquare fu x421 rs422 x135 rs136).bind fun b456 =>
 bif !b456 then
 (some true)
 else
 (some (!decide (x423 = x137)))).bind fun b452 =>
 bif b452 then
 (some false)
 else
 ((D_laws_heldSquare fu x182 rs375 1).bind fun x477 =>
 bif decide (x477 < 0) then
 (some false)
 else
 (bif !decide (x477 = x374) then
 (some false)
 else
 (some true)))))))))))
end Go.Proofs.Ytakfkiahhfdjfaa
