/-
  Rounds marked and looked at again; schedules. Plain Lean, no program, no condition.
-/
import Derived.Test.YtdafmafigcljkaaDTa
import Derived.Test.YtdafmafigcljkaaPuSq
namespace Go.Proofs.Ytdafmafigcljkaa
open Go Am
set_option linter.unusedVariables false
set_option linter.unusedSimpArgs false
theorem set_rw {l : List (List Int)} {i : Nat} (h : i < l.length) : l.set i (rw_ l i) = l := by
  apply List.ext_getElem?
  intro j
  rw [List.getElem?_set]
  by_cases hj : i = j
  · subst hj; simp [h, rw_, List.getD_eq_getElem?_getD]
  · rw [if_neg hj]
theorem tot14 : ∀ {rs : List (List Int)}, All 14 rs → totR rs = 14 * rs.length
  | [], _ => rfl
  | r :: rs, h => by
    have := tot14 (rs := rs) fun r h' => h r (List.mem_cons_of_mem _ h')
    have h0 := h r (List.mem_cons_self ..)
    simp [totR] at this ⊢; omega

/-! schedules -/
def isSch (n : Int) (rs : List (List Int)) : Bool := inB n 2 14 && decide ((rs.length : Int) ≤ 40) && rs.all (isRnd n)
theorem isSch_of {n : Int} {rs : List (List Int)} (h : isSch n rs = true) : (2 ≤ n ∧ n ≤ 14) ∧ rs.length ≤ 40 := by
  unfold isSch at h
  simp only [Bool.and_eq_true, decide_eq_true_eq] at h
  exact ⟨inB_of h.1.1, by omega⟩
theorem all_rw {l : List (List Int)} {p : List Int → Bool} : (List.range l.length).all (fun k => p (rw_ l k)) = l.all p := by
  rw [Bool.eq_iff_iff, List.all_eq_true, List.all_eq_true]
  constructor
  · intro h r hr
    obtain ⟨k, hk, rfl⟩ := rw_of hr
    exact h k (List.mem_range.2 hk)
  · intro h k hk
    exact h _ (rw_mem (List.mem_range.1 hk))
theorem l01Is_D {fu : Nat} (hf : Big fu) (n : Int) {rs : List (List Int)} (hA : All 14 rs) (hl : rs.length ≤ 4294967296) : D_spec_l01Is fu n rs = some (isSch n rs) := by
  have hf' := hf
  unfold Big at hf
  unfold D_spec_l01Is isSch
  rw [l01In_D, Option.bind_some]
  cases hn : inB n 2 14 with
  | false => rfl
  | true =>
    rw [Bool.not_true, bif_false, Option.bind_some]
    by_cases h : (rs.length : Int) ≤ 40
    · rw [bif_df (by omega), decide_eq_true h]
      rw [loop_all (fun k => (k : Int)) (fun k => isRnd n (rw_ rs k)) rs.length (by omega) ?_ ?_ ?_ (s := 0) rfl, all_rw]
      · cases rs.all (isRnd n) <;> rfl
      all_goals first | (intro k hk hp _) | intro _
      all_goals unfold D_spec_l01Is_s0
      · have := l01Round_D hf' n (hA _ (rw_mem hk))
        simp (disch := omega) only [chk_inR, chk_in64, bif_dt, Int.toNat_natCast, this, hp, Option.bind_some, Bool.not_true, bif_false]; rfl
      · have := l01Round_D hf' n (hA _ (rw_mem hk))
        simp (disch := omega) only [chk_inR, chk_in64, bif_dt, Int.toNat_natCast, this, hp, Option.bind_some, Bool.not_false, bif_true]
      · simp (disch := omega) only [bif_df]
    · rw [bif_dt (by omega), decide_eq_false h]; rfl
theorem IndexFuncR_D {fu : Nat} (hf : Big fu) {rs : List (List Int)} (hl : rs.length ≤ 4294967296) {q : List Int → Option Bool} {p : List Int → Bool} (hq : ∀ r ∈ rs, q r = some (p r)) :
    ∃ x, D_slices_IndexFunc_Simpl_Round_impl_Round fu rs q = some x ∧ decide (0 ≤ x) = rs.any p := IndexFuncT_D hf hl hq
theorem ContainsFuncR_D {fu : Nat} (hf : Big fu) {rs : List (List Int)} (hl : rs.length ≤ 4294967296) {q : List Int → Option Bool} {p : List Int → Bool} (hq : ∀ r ∈ rs, q r = some (p r)) : D_slices_ContainsFunc_Simpl_Round_impl_Round fu rs q = some (rs.any p) := ContainsFuncT_D hf hl hq
theorem IsSchedule_D {fu : Nat} (hf : Big fu) (n : Int) {rs : List (List Int)} (hA : All 14 rs) (hl : rs.length ≤ 4294967296) : D_impl_IsSchedule fu n rs = some (isSch n rs) := by
  unfold D_impl_IsSchedule isSch
  rw [between_D, Option.bind_some]
  cases hn : inB n 2 14 with
  | false => rfl
  | true =>
    rw [bif_true]
    by_cases h : (rs.length : Int) ≤ 40
    · rw [bif_dt h, decide_eq_true h, ContainsFuncR_D hf hl (p := fun r => !isRnd n r)]
      · rw [Option.bind_some, Option.bind_some, any_not, Bool.not_not]; rfl
      · intro r hr
        unfold D_impl_IsSchedule_1
        rw [IsRound_D hf n (hA r hr)]; rfl
    · rw [bif_df h, decide_eq_false h]; rfl
theorem scheduleCode_D {fu : Nat} (hf : Big fu) (n : Int) {rs : List (List Int)} (hA : All 14 rs) (hl : rs.length ≤ 4294967296) {q : Unit → Option Bool} {b : Bool} (hq : isSch n rs = true → q () = some b) : D_impl_scheduleCode fu n rs q = some (if isSch n rs then if b then 0 else 2 else 1) := by
  unfold D_impl_scheduleCode
  rw [IsSchedule_D hf n hA hl, Option.bind_some]
  cases h : isSch n rs with
  | false => rfl
  | true => rw [hq h, Option.bind_some]; cases b <;> rfl
/-! AddRound -/
def addRound (n : Int) (rs : List (List Int)) (r : List Int) : Int × List (List Int) × Int :=
  if isSch n rs then if isRnd n r then if (rs.length : Int) = 40 then (0, [], 3) else (n, rs ++ [r], 0) else (0, [], 2) else (0, [], 1)
theorem all_nil {m : Nat} : All m [] := fun r h => absurd h List.not_mem_nil
theorem addRound_all {n : Int} {rs : List (List Int)} {r : List Int} (hA : All 14 rs) (hr : r.length = 14) : All 14 (addRound n rs r).2.1 ∧ (addRound n rs r).2.1.length ≤ 41 := by
  unfold addRound
  cases h : isSch n rs with
  | false => exact ⟨all_nil, by simp⟩
  | true =>
    obtain ⟨hn, h40⟩ := isSch_of h
    cases hq : isRnd n r with
    | false => exact ⟨all_nil, by simp⟩
    | true =>
      rw [if_pos rfl, if_pos rfl]
      split
      · exact ⟨all_nil, by simp⟩
      · refine ⟨fun q hq' => ?_, by simp; omega⟩
        rcases List.mem_append.1 hq' with h | h
        · exact hA q h
        · rw [List.mem_singleton.1 h]; exact hr
end Go.Proofs.Ytdafmafigcljkaa

