/-
  What functions of the program compute, printed by a program. No condition.
-/
import Derived.Test.YtdafmafigcljkaaDRb
import Derived.Test.YtdafmafigcljkaaDRc
namespace Go.Proofs.Ytdafmafigcljkaa
open Go Am
set_option linter.unusedVariables false
def D_laws_FnExactCountRobins (fu : Nat) (a0 : Int) : Option Bool :=
 (D_spec_CountRobins fu a0).bind fun (x100, x101) =>
 (D_impl_CountRobins fu a0).bind fun (x105, x106) =>
 bif (!decide (x105 = x100)) || (!decide (x106 = x101)) then
 (some false)
 else
 (some true)
end Go.Proofs.Ytdafmafigcljkaa
