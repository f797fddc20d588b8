/-
  What functions of the program compute, printed by a program. No condition.
-/
import Derived.Test.YtakfkiahhfdjfaaDL
import Derived.Test.YtakfkiahhfdjfaaDM
namespace Go.Proofs.Ytakfkiahhfdjfaa
open Go Am
set_option linter.unusedVariables false
end Go.Proofs.Ytakfkiahhfdjfaa
