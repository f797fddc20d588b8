/-
  What functions of the program compute, printed by a program. No condition.
-/
import Derived.Test.YtdafmafigcljkaaDC
import Derived.Test.YtdafmafigcljkaaDE
namespace Go.Proofs.Ytdafmafigcljkaa
open Go Am
set_option linter.unusedVariables false
def D_laws_FnExactCountStarters (fu : Nat) (a0 : Int) : Option Bool :=
 (D_spec_CountStarters fu a0).bind fun (x100, x101, x102, x103) =>
 (D_impl_CountStarters fu a0).bind fun (x107, x108, x109, x110) =>
 bif (!decide (x107 = x100)) || ((!decide (x108 = x101)) || ((!decide (x109 = x102)) || (!decide (x110 = x103)))) then
 (some false)
 else
 (some true)
end Go.Proofs.Ytdafmafigcljkaa
