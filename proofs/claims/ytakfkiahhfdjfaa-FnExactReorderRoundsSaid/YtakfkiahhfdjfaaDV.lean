/-
  What functions of the program compute, printed by a program. No condition.
-/
import Derived.Test.YtakfkiahhfdjfaaDI
namespace Go.Proofs.Ytakfkiahhfdjfaa
open Go Am
set_option linter.unusedVariables false
def D_laws_FnExactRenumberSquare (fu : Nat) (a0_0 : Int) (a0_1 : List (List Int)) (a1 : List Int) : Option Bool :=
 bif decide (1048576 < ((a1.length : Nat) : Int)) then
 (some true)
 else
 ((D_laws_szSquare fu a0_0 a0_1 1048576).bind fun x107 =>
 bif decide (x107 < 0) then
 (some true)
 else
 ((D_laws_toSquare fu a0_0 a0_1).bind fun (x114, rs115) =>
 (D_laws_toInt64S fu a1).bind fun xs129 =>
 (D_spec_RenumberSquare fu x114 rs115 xs129).bind fun (x140, rs141, x142) =>
 (D_laws_toSquare fu a0_0 a0_1).bind fun (x162, rs163) =>
 (D_laws_toInt64S fu a1).bind fun xs183 =>
 (D_impl_RenumberSquare fu x162 rs163 xs183).bind fun (x194, rs195, x196) =>
 ((D_laws_eqSquare fu x194 rs195 x140 rs141).bind fun b235 =>
 bif !b235 then
 (some true)
 else
 (some (!decide (x196 = x142)))).bind fun b231 =>
 bif b231 then
 (some false)
 else
 ((D_laws_toSquare fu a0_0 a0_1).bind fun (x272, rs273) =>
 (D_laws_eqSquare fu x162 rs163 x272 rs273).bind fun b287 =>
 bif !b287 then
 (some false)
 else
 ((D_laws_toInt64S fu a1).bind fun xs294 =>
 (D_laws_eqInt64S fu xs183 xs294).bind fun b305 =>
 bif !b305 then
 (some false)
 else
 ((D_laws_markSquare fu x162 rs163 1).bind fun (x314, rs315) =>
 (D_laws_markInt64S fu xs183 x314).bind fun (x327, xs328) =>
 (bif decide (x327 < 0) then
 (some true)
 else
 ((D_laws_eqSquare fu x194 rs195 x140 rs141).bind fun b366 =>
 bif !b366 then
 (some true)
 else
 (some (!decide (x196 = x142))))).bind fun b351 =>
 bif b351 then
 (some false)
 else
 ((D_laws_markSquare fu x194 rs195 1).bind fun (x397, rs398) =>
 (D_laws_heldSquare fu x194 rs398 1).bind fun x409 =>
 bif decide (x409 < 0) then
 (some false)
 else
 (bif !decide (x409 = x397) then
 (some false)
 else
 ((D_laws_toSquare fu a0_0 a0_1).bind fun (x419, rs420) =>
 (D_laws_toInt64S fu a1).bind fun xs434 =>
 (D_impl_RenumberSquare fu x419 rs420 xs434).bind fun (x445, rs446, x447) =>
 ((D_laws_eqSquare fu x445 rs446 x140 rs141).bind fun b480 =>
 bif !b480 then
 (some true)
 else
 (some (!decide (x447 = x142)))).bind fun b476 =>
 bif b476 then
 (some false)
 else
 ((D_laws_heldSquare fu x194 rs398 1).bind fun x501 =>
 bif decide (x501 < 0) then
 (some false)
 else
 (bif !decide (x501 = x397) then
 (some false)
 else
 (some true)))))))))))
end Go.Proofs.Ytakfkiahhfdjfaa
