/-
  What functions of the program compute, printed by a program. No condition.
-/
import Derived.Test.YtfiilgnebmidbaaDoorDF
namespace Go.Proofs.YtfiilgnebmidbaaDoor
open Go Am
set_option linter.unusedVariables false
def D_laws_FnExactSquareText (fu : Nat) (a0_0 : Int) (a0_1 : List (List Int)) : Option Bool :=
 (D_laws_szSquare fu a0_0 a0_1 1048576).bind fun x104 =>
 bif decide (x104 < 0) then
 (some true)
 else
 ((D_laws_toSquare fu a0_0 a0_1).bind fun (x111, rs112) =>
 (D_spec_SquareText fu x111 rs112).bind fun (s126, x127) =>
 (D_laws_toSquare fu a0_0 a0_1).bind fun (x131, rs132) =>
 (D_impl_SquareText fu x131 rs132).bind fun (s152, x153) =>
 bif (!((s152 : ByteArray).toList == (s126 : ByteArray).toList)) || (!decide (x153 = x127)) then
 (some false)
 else
 ((D_laws_toSquare fu a0_0 a0_1).bind fun (x165, rs166) =>
 (D_laws_eqSquare fu x131 rs132 x165 rs166).bind fun b180 =>
 bif !b180 then
 (some false)
 else
 (some true)))
end Go.Proofs.YtfiilgnebmidbaaDoor
