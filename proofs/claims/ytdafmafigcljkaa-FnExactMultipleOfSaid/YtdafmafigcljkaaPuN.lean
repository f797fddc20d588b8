/-
  Rounds marked and looked at again; schedules. Plain Lean, no program, no condition.
-/
import Derived.Test.YtdafmafigcljkaaPuSq
namespace Go.Proofs.Ytdafmafigcljkaa
open Go Am
set_option linter.unusedVariables false
set_option linter.unusedSimpArgs false
theorem set_rw {l : List (List Int)} {i : Nat} (h : i < l.length) : l.set i (rw_ l i) = l := by
  apply List.ext_getElem?
  intro j
  rw [List.getElem?_set]
  by_cases hj : i = j
  · subst hj; simp [h, rw_, List.getD_eq_getElem?_getD]
  · rw [if_neg hj]
theorem tot14 : ∀ {rs : List (List Int)}, All 14 rs → totR rs = 14 * rs.length
  | [], _ => rfl
  | r :: rs, h => by
    have := tot14 (rs := rs) fun r h' => h r (List.mem_cons_of_mem _ h')
    have h0 := h r (List.mem_cons_self ..)
    simp [totR] at this ⊢; omega

/-! schedules -/
def isSch (n : Int) (rs : List (List Int)) : Bool := inB n 2 14 && decide ((rs.length : Int) ≤ 40) && rs.all (isRnd n)
theorem isSch_of {n : Int} {rs : List (List Int)} (h : isSch n rs = true) : (2 ≤ n ∧ n ≤ 14) ∧ rs.length ≤ 40 := by
  unfold isSch at h
  simp only [Bool.and_eq_true, decide_eq_true_eq] at h
  exact ⟨inB_of h.1.1, by omega⟩
theorem all_rw {l : List (List Int)} {p : List Int → Bool} : (List.range l.length).all (fun k => p (rw_ l k)) = l.all p := by
  rw [Bool.eq_iff_iff, List.all_eq_true, List.all_eq_true]
  constructor
  · intro h r hr
    obtain ⟨k, hk, rfl⟩ := rw_of hr
    exact h k (List.mem_range.2 hk)
  · intro h k hk
    exact h _ (rw_mem (List.mem_range.1 hk))
/-! AddRound -/
def addRound (n : Int) (rs : List (List Int)) (r : List Int) : Int × List (List Int) × Int :=
  if isSch n rs then if isRnd n r then if (rs.length : Int) = 40 then (0, [], 3) else (n, rs ++ [r], 0) else (0, [], 2) else (0, [], 1)
theorem all_nil {m : Nat} : All m [] := fun r h => absurd h List.not_mem_nil
theorem addRound_all {n : Int} {rs : List (List Int)} {r : List Int} (hA : All 14 rs) (hr : r.length = 14) : All 14 (addRound n rs r).2.1 ∧ (addRound n rs r).2.1.length ≤ 41 := by
  unfold addRound
  cases h : isSch n rs with
  | false => exact ⟨all_nil, by simp⟩
  | true =>
    obtain ⟨hn, h40⟩ := isSch_of h
    cases hq : isRnd n r with
    | false => exact ⟨all_nil, by simp⟩
    | true =>
      rw [if_pos rfl, if_pos rfl]
      split
      · exact ⟨all_nil, by simp⟩
      · refine ⟨fun q hq' => ?_, by simp; omega⟩
        rcases List.mem_append.1 hq' with h | h
        · exact hA q h
        · rw [List.mem_singleton.1 h]; exact hr
end Go.Proofs.Ytdafmafigcljkaa

