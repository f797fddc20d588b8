/-
  What slices.Sorted, slices.Compact, slices.Sort and slices.Reverse compute. No condition.
-/
import Derived.Lib.SlicesCompact
import Derived.Test.YtnmbjedijgcncaaK5
namespace Go.Proofs.Ytnmbjedijgcncaa
open Go Am
set_option linter.unusedVariables false
def D_slices_Sorted_int64 (fu : Nat) (a : List Int) : Option (List Int) := chk (a.length ≤ 4294967296) <| some (a.mergeSort fun x y => decide (x ≤ y))
def D_slices_Compact_Sint64_int64 (fu : Nat) (a : List Int) : Option (List Int × List Int) := chk (a.length ≤ 4294967296) <| some (Lib.compact a, Lib.compact a ++ List.replicate (a.length - (Lib.compact a).length) 0)
def D_slices_Sort_Sint64_int64 (fu : Nat) (a : List Int) : Option (List Int) := chk (a.length ≤ 4294967296) <| some (a.mergeSort fun x y => decide (x ≤ y))
def D_slices_Reverse_Sint64_int64 (fu : Nat) (a : List Int) : Option (List Int) := chk (a.length ≤ 4294967296) <| some a.reverse
end Go.Proofs.Ytnmbjedijgcncaa
