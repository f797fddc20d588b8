/-
  What slices.Grow of nil computes. No condition.
-/
import Derived.Test.YtnmbjedijgcncaaK5
namespace Go.Proofs.Ytnmbjedijgcncaa
open Go Am
set_option linter.unusedVariables false
def D_slices_Grow_Simpl_Round_impl_Round (fu : Nat) (n : Int) : Option (List (List Int)) := chk (0 ≤ n ∧ n ≤ 4294967296) <| some []
end Go.Proofs.Ytnmbjedijgcncaa
