/-
  What functions of the program compute, printed by a program. No condition.
-/
import Derived.Test.YtfiilgnebmidbaaDoorDH
namespace Go.Proofs.YtfiilgnebmidbaaDoor
open Go Am
set_option linter.unusedVariables false
def D_laws_FnExactParseSquare (fu : Nat) (a0 : ByteArray) : Option Bool :=
 bif decide (1048576 < ((a0.size : Nat) : Int)) then
 (some true)
 else
 ((D_spec_ParseSquare fu a0).bind fun (x103, rs104, x105) =>
 (D_impl_ParseSquare fu a0).bind fun (x125, rs126, x127) =>
 ((D_laws_eqSquare fu x125 rs126 x103 rs104).bind fun b162 =>
 bif !b162 then
 (some true)
 else
 (some (!decide (x127 = x105)))).bind fun b158 =>
 bif b158 then
 (some false)
 else
 ((D_laws_markSquare fu x125 rs126 1).bind fun (x189, rs190) =>
 (D_laws_heldSquare fu x125 rs190 1).bind fun x201 =>
 bif decide (x201 < 0) then
 (some false)
 else
 (bif !decide (x201 = x189) then
 (some false)
 else
 ((D_impl_ParseSquare fu a0).bind fun (x211, rs212, x213) =>
 ((D_laws_eqSquare fu x211 rs212 x103 rs104).bind fun b246 =>
 bif !b246 then
 (some true)
 else
 (some (!decide (x213 = x105)))).bind fun b242 =>
 bif b242 then
 (some false)
 else
 ((D_laws_heldSquare fu x125 rs190 1).bind fun x267 =>
 bif decide (x267 < 0) then
 (some false)
 else
 (bif !decide (x267 = x189) then
 (some false)
 else
 (some true)))))))
end Go.Proofs.YtfiilgnebmidbaaDoor
