/-
  What functions of the program compute, printed by a program. No condition.
-/
import Derived.Test.YtdafmafigcljkaaDD
import Derived.Test.YtdafmafigcljkaaDE
import Derived.Test.YtdafmafigcljkaaDM
namespace Go.Proofs.Ytdafmafigcljkaa
open Go Am
set_option linter.unusedVariables false
def D_laws_FnExactFirstStrong (fu : Nat) (a0 : Int) : Option Bool :=
 (D_spec_FirstStrong fu a0).bind fun (rs100, x101) =>
 (D_impl_FirstStrong fu a0).bind fun (rs115, x116) =>
 ((D_laws_eqInt64SS fu rs115 rs100).bind fun b143 =>
 bif !b143 then
 (some true)
 else
 (some (!decide (x116 = x101)))).bind fun b139 =>
 bif b139 then
 (some false)
 else
 ((D_laws_markInt64SS fu rs115 1).bind fun (x166, rs167) =>
 (D_laws_heldInt64SS fu rs167 1).bind fun x178 =>
 bif decide (x178 < 0) then
 (some false)
 else
 (bif !decide (x178 = x166) then
 (some false)
 else
 ((D_impl_FirstStrong fu a0).bind fun (rs188, x189) =>
 ((D_laws_eqInt64SS fu rs188 rs100).bind fun b215 =>
 bif !b215 then
 (some true)
 else
 (some (!decide (x189 = x101)))).bind fun b211 =>
 bif b211 then
 (some false)
 else
 ((D_laws_heldInt64SS fu rs167 1).bind fun x234 =>
 bif decide (x234 < 0) then
 (some false)
 else
 (bif !decide (x234 = x166) then
 (some false)
 else
 (some true))))))
end Go.Proofs.Ytdafmafigcljkaa
