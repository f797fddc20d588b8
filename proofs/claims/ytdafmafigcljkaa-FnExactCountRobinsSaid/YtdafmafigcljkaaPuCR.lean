/-
  CountRobins: at five numbers by reckoning, elsewhere at once. Plain Lean, no program, no condition.
-/
import Derived.Test.YtdafmafigcljkaaDA
import Derived.Test.YtdafmafigcljkaaDRb
import Derived.Test.YtdafmafigcljkaaDRc
import Derived.Test.YtdafmafigcljkaaDRd
import Derived.KernelRfl
namespace Go.Proofs.Ytdafmafigcljkaa
open Go Am
set_option linter.unusedVariables false
set_option linter.unusedSimpArgs false

theorem betI {fu : Nat} {a : Int} (h : ¬ (2 ≤ a ∧ a ≤ 6)) : D_impl_between fu a 2 6 = some false := by
  unfold D_impl_between
  by_cases h1 : 2 ≤ a
  · rw [decide_eq_false (fun h2 => h ⟨h1, h2⟩), Bool.and_false]
  · rw [decide_eq_false h1, Bool.false_and]
theorem betS {fu : Nat} {a : Int} (h : ¬ (2 ≤ a ∧ a ≤ 6)) : D_spec_l01In fu a 2 6 = some false := by
  unfold D_spec_l01In
  by_cases h1 : 2 ≤ a
  · rw [decide_eq_false (fun h2 => h ⟨h1, h2⟩), Bool.and_false]
  · rw [decide_eq_false h1, Bool.false_and]
theorem five {a : Int} (h : 2 ≤ a ∧ a ≤ 6) : a = 2 ∨ a = 3 ∨ a = 4 ∨ a = 5 ∨ a = 6 := by omega
theorem countRobins_law (a : Int) : D_laws_FnExactCountRobins 64 a = some true := by
  by_cases h : 2 ≤ a ∧ a ≤ 6
  · rcases five h with rfl | rfl | rfl | rfl | rfl <;> kernel_rfl
  · unfold D_laws_FnExactCountRobins D_spec_CountRobins D_impl_CountRobins
    rw [betS h, betI h]
    rfl
end Go.Proofs.Ytdafmafigcljkaa

