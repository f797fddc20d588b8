/-
  What functions of the program compute, printed by a program. No condition.
-/
import Derived.Test.YtnmbjedijgcncaaDL
import Derived.Test.YtnmbjedijgcncaaDM
namespace Go.Proofs.Ytnmbjedijgcncaa
open Go Am
set_option linter.unusedVariables false
end Go.Proofs.Ytnmbjedijgcncaa
