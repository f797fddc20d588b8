
/-
  What slices.Sorted, slices.Compact, slices.Sort and slices.Reverse compute. No condition.
-/
import Derived.Lib.SlicesCompact
import Derived.Test.YtdafmafigcljkaaGreatK5
namespace Go.Proofs.YtdafmafigcljkaaGreat
open Go Am
set_option linter.unusedVariables false
def insT (x : Int) : List Int → List Int
  | [] => [x]
  | y :: l => if x ≤ y then x :: y :: l else y :: insT x l
def isort : List Int → List Int
  | [] => []
  | x :: l => insT x (isort l)
theorem insT_perm (x : Int) : ∀ l, (insT x l).Perm (x :: l)
  | [] => .refl _
  | y :: l => by
    unfold insT
    split
    · exact .refl _
    · exact ((insT_perm x l).cons y).trans (.swap x y l)
theorem isort_perm : ∀ l, (isort l).Perm l
  | [] => .refl _
  | x :: l => (insT_perm x _).trans ((isort_perm l).cons x)
theorem insT_pw (x : Int) : ∀ {l : List Int}, l.Pairwise (· ≤ ·) → (insT x l).Pairwise (· ≤ ·)
  | [], _ => by simp [insT]
  | y :: l, h => by
    obtain ⟨h1, h2⟩ := List.pairwise_cons.1 h
    unfold insT
    split
    · rename_i hxy
      refine List.pairwise_cons.2 ⟨fun z hz => ?_, h⟩
      rcases List.mem_cons.1 hz with rfl | hz
      · exact hxy
      · exact Int.le_trans hxy (h1 z hz)
    · rename_i hxy
      refine List.pairwise_cons.2 ⟨fun z hz => ?_, insT_pw x h2⟩
      rcases List.mem_cons.1 ((insT_perm x l).mem_iff.1 hz) with rfl | hz
      · omega
      · exact h1 z hz
theorem isort_pw : ∀ l : List Int, (isort l).Pairwise (· ≤ ·)
  | [] => List.Pairwise.nil
  | x :: l => insT_pw x (isort_pw l)
theorem isort_eq (l : List Int) : isort l = l.mergeSort fun x y => decide (x ≤ y) := by
  have h := List.pairwise_mergeSort (le := fun x y : Int => decide (x ≤ y)) (fun a b c h1 h2 => by simp only [decide_eq_true_eq] at *; omega) (fun a b => by simp only [Bool.or_eq_true, decide_eq_true_eq]; omega) l
  exact List.Perm.eq_of_pairwise (le := (· ≤ ·)) (fun a b _ _ h1 h2 => Int.le_antisymm h1 h2) (isort_pw l) (h.imp (fun h => by simpa using h)) ((isort_perm l).trans (List.mergeSort_perm l _).symm)
def D_slices_Sorted_int64 (fu : Nat) (a : List Int) : Option (List Int) := chk (a.length ≤ 4294967296) <| some (isort a)
def D_slices_Compact_Sint64_int64 (fu : Nat) (a : List Int) : Option (List Int × List Int) := chk (a.length ≤ 4294967296) <| some (Lib.compact a, Lib.compact a ++ List.replicate (a.length - (Lib.compact a).length) 0)
end Go.Proofs.YtdafmafigcljkaaGreat
