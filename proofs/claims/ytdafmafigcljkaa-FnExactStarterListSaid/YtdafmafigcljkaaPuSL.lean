/-
  StarterList: at six moduli by reckoning, elsewhere at once. Plain Lean, no program, no condition.
-/
import Derived.Test.YtdafmafigcljkaaDA
import Derived.Test.YtdafmafigcljkaaDF
import Derived.Test.YtdafmafigcljkaaDG
import Derived.Test.YtdafmafigcljkaaDZ
import Derived.KernelRfl
namespace Go.Proofs.Ytdafmafigcljkaa
open Go Am
set_option linter.unusedVariables false
set_option linter.unusedSimpArgs false

theorem modI {fu : Nat} {a : Int} (h : ¬ (3 ≤ a ∧ a ≤ 13 ∧ a.tmod 2 = 1)) : D_impl_isModulus fu a = some false := by
  unfold D_impl_isModulus D_impl_between
  simp only [Option.bind_some]
  cases e : (decide (3 ≤ a) && decide (a ≤ 13)) with
  | false => rfl
  | true =>
    simp only [Bool.and_eq_true, decide_eq_true_eq] at e
    rw [decide_eq_false (fun h3 => h ⟨e.1, e.2, h3⟩)]; rfl
theorem modS {fu : Nat} {a : Int} (h : ¬ (3 ≤ a ∧ a ≤ 13 ∧ a.tmod 2 = 1)) : D_spec_l03Modulus fu a = some false := by
  unfold D_spec_l03Modulus D_spec_l01In
  simp only [Option.bind_some]
  cases e : (decide (3 ≤ a) && decide (a ≤ 13)) with
  | false => rfl
  | true =>
    simp only [Bool.and_eq_true, decide_eq_true_eq] at e
    rw [decide_eq_false (fun h3 => h ⟨e.1, e.2, h3⟩)]; rfl
theorem six {a : Int} (h : 3 ≤ a ∧ a ≤ 13 ∧ a.tmod 2 = 1) : a = 3 ∨ a = 5 ∨ a = 7 ∨ a = 9 ∨ a = 11 ∨ a = 13 := by
  obtain ⟨h1, h2, h3⟩ := h
  rw [Int.tmod_eq_emod_of_nonneg (by omega)] at h3
  omega
theorem starterList_law (a : Int) : D_laws_FnExactStarterList 64 a = some true := by
  by_cases h : 3 ≤ a ∧ a ≤ 13 ∧ a.tmod 2 = 1
  · rcases six h with rfl | rfl | rfl | rfl | rfl | rfl <;> kernel_rfl
  · unfold D_laws_FnExactStarterList D_spec_StarterList D_impl_StarterList
    rw [modS h, modI h]
    rfl
end Go.Proofs.Ytdafmafigcljkaa

