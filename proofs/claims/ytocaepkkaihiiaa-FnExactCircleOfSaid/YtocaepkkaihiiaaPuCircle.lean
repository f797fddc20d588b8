/-
  The circle, program and reference alike: thirteen numbers, tried by the kernel; outside both answer with an error. No program, no condition.
-/
import Derived.Test.YtocaepkkaihiiaaPu0
import Derived.Test.YtocaepkkaihiiaaDX
namespace Go.Proofs.Ytocaepkkaihiiaa
open Go Am
set_option linter.unusedVariables false
set_option linter.unusedSimpArgs false
theorem circle_in : ∀ k : Fin 13, D_laws_FnExactCircleOf 200 ((k.val : Int) + 2) = some true := by decide +kernel
theorem circle_out {n : Int} (h : ¬ (2 ≤ n ∧ n ≤ 14)) : D_laws_FnExactCircleOf 200 n = some true := by
  have e : (decide (2 ≤ n) && decide (n ≤ 14)) = false := by
    rw [Bool.and_eq_false_iff, decide_eq_false_iff_not, decide_eq_false_iff_not]; omega
  have h1 : D_spec_CircleOf 200 n = some (0, [], 2) := by
    unfold D_spec_CircleOf D_spec_l01In; rw [e]; rfl
  have h2 : D_impl_CircleOf 200 n = some (0, [], 2) := by
    unfold D_impl_CircleOf D_impl_between; rw [e]; rfl
  unfold D_laws_FnExactCircleOf
  simp only [h1, h2, Option.bind_some]
  decide +kernel
theorem circle_law (n : Int) : D_laws_FnExactCircleOf 200 n = some true := by
  by_cases h : 2 ≤ n ∧ n ≤ 14
  · have := circle_in ⟨(n - 2).toNat, by omega⟩
    rwa [show (((n - 2).toNat : Nat) : Int) + 2 = n by omega] at this
  · exact circle_out h
end Go.Proofs.Ytocaepkkaihiiaa
