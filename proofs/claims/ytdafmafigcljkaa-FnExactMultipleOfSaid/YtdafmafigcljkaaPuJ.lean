/-
  ScheduleOfStarter: what program and reference compute, and the law. Plain Lean, no program, no condition.
-/
import Derived.Test.YtdafmafigcljkaaPuZ
import Derived.Test.YtdafmafigcljkaaPuT
namespace Go.Proofs.Ytdafmafigcljkaa
open Go Am
set_option linter.unusedVariables false
set_option linter.unusedSimpArgs false

theorem mod2 {m x : Int} (hm : 0 < m) (h0 : 0 ≤ x) (h1 : x < 2 * m) : x.tmod m = if x < m then x else x - m := by
  rw [Int.tmod_eq_emod_of_nonneg h0]
  by_cases h : x < m
  · rw [if_pos h, Int.emod_eq_of_lt h0 h]
  · rw [if_neg h]
    have : x = (x - m) + m := by omega
    rw [this, Int.add_emod_right, Int.emod_eq_of_lt (by omega) (by omega)]; omega
theorem map_take' {f : List Int → List Int} {rs : List (List Int)} {k : Nat} (h : k < rs.length) : (rs.take k).map f ++ [f (rw_ rs k)] = (rs.take (k + 1)).map f := by rw [take_rw h, List.map_append]; rfl
def shp (m r : Int) (p : List Int) : List Int := [(rd p 0 + r).tmod m, (rd p 1 + r).tmod m]
def ownR (m r : Int) (ps : List (List Int)) : List (List Int) := [m, r] :: ps.map (shp m r)
theorem shp_ok {m r : Int} {p : List Int} (hm : 3 ≤ m ∧ m ≤ 13) (hr : 0 ≤ r ∧ r < m) (h : okS m p = true) : okP (m + 1) (shp m r p) = true ∧ (0 ≤ (rd p 0 + r).tmod m ∧ (rd p 0 + r).tmod m < m) ∧ (0 ≤ (rd p 1 + r).tmod m ∧ (rd p 1 + r).tmod m < m) := by
  obtain ⟨h0, h1, h2, h3⟩ := okS_of h
  have e0 := mod2 (m := m) (x := rd p 0 + r) (by omega) (by omega) (by omega)
  have e1 := mod2 (m := m) (x := rd p 1 + r) (by omega) (by omega) (by omega)
  have b0 : 0 ≤ (rd p 0 + r).tmod m ∧ (rd p 0 + r).tmod m < m := by rw [e0]; split <;> omega
  have b1 : 0 ≤ (rd p 1 + r).tmod m ∧ (rd p 1 + r).tmod m < m := by rw [e1]; split <;> omega
  refine ⟨?_, b0, b1⟩
  have n1 : ¬ (rd p 0 + r).tmod m = (rd p 1 + r).tmod m := by rw [e0, e1]; split <;> split <;> omega
  unfold okP shp
  have z0 : rd [(rd p 0 + r).tmod m, (rd p 1 + r).tmod m] 0 = (rd p 0 + r).tmod m := rfl
  have z1 : rd [(rd p 0 + r).tmod m, (rd p 1 + r).tmod m] 1 = (rd p 1 + r).tmod m := rfl
  rw [z0, z1, inB_t ⟨b0.1, by omega⟩, inB_t ⟨b1.1, by omega⟩, decide_eq_false n1]; rfl
theorem own_ok {m r : Int} {ps : List (List Int)} (hm : 3 ≤ m ∧ m ≤ 13) (hr : 0 ≤ r ∧ r < m) (h : ∀ p ∈ ps, okS m p = true) : ∀ p ∈ ownR m r ps, okP (m + 1) p = true := by
  intro p hp
  rcases List.mem_cons.1 hp with rfl | hp
  · unfold okP
    have z0 : rd [m, r] 0 = m := rfl
    have z1 : rd [m, r] 1 = r := rfl
    have n1 : ¬ m = r := by omega
    rw [z0, z1, inB_t ⟨by omega, by omega⟩, inB_t ⟨by omega, by omega⟩, decide_eq_false n1]; rfl
  · obtain ⟨q, hq, rfl⟩ := List.mem_map.1 hp
    exact (shp_ok hm hr (h q hq)).1
theorem own_len (m r : Int) (ps : List (List Int)) : (ownR m r ps).length = ps.length + 1 := by simp [ownR]
theorem own_rw {m r : Int} {ps : List (List Int)} {k : Nat} (h : k < ps.length) : rw_ (ownR m r ps) (k + 1) = shp m r (rw_ ps k) := by
  simp [ownR, rw_, List.getD_eq_getElem?_getD, h]
def rndS (m : Int) (ps : List (List Int)) (r : Nat) : List Int := RR (m + 1) (ownR m r ps) (ps.length + 1)
def schS (m : Int) (ps : List (List Int)) : List (List Int) := (List.range m.toNat).map (rndS m ps)
def schOf (m : Int) (ps : List (List Int)) : Int × List (List Int) × Int := if stCode m ps = 0 then (m + 1, schS m ps, 0) else (0, [], stCode m ps)
theorem stCode_of {m : Int} {ps : List (List Int)} (h : stCode m ps = 0) : (3 ≤ m ∧ m ≤ 13) ∧ (∀ p ∈ ps, okS m p = true) := by
  unfold stCode at h
  split at h
  · rename_i h1
    rw [Bool.and_eq_true, List.all_eq_true] at h1
    have := isMod_of h1.1
    exact ⟨⟨this.1, this.2.1⟩, h1.2⟩
  · exact absurd h (by decide)
theorem stCode_len {m : Int} {ps : List (List Int)} (h : stCode m ps = 0) : ps.length ≤ 100 := by
  have h0 := (stCode_of h).1
  unfold stCode at h
  split at h
  · split at h
    · rename_i h1
      unfold isSt at h1
      simp only [Bool.and_eq_true, decide_eq_true_eq] at h1
      omega
    · exact absurd h (by decide)
  · exact absurd h (by decide)
theorem schOf_all (m : Int) (ps : List (List Int)) : All 14 (schOf m ps).2.1 ∧ (schOf m ps).2.1.length ≤ 13 := by
  unfold schOf
  by_cases h : stCode m ps = 0
  · obtain ⟨hm, hok⟩ := stCode_of h
    rw [if_pos h]
    refine ⟨?_, ?_⟩
    · intro r hr
      obtain ⟨k, hk, rfl⟩ := List.mem_map.1 hr
      exact RR_len _ _ _
    · show (schS m ps).length ≤ 13
      unfold schS; rw [List.length_map, List.length_range]; omega
  · rw [if_neg h]
    exact ⟨fun r h => absurd h List.not_mem_nil, Nat.zero_le _⟩
end Go.Proofs.Ytdafmafigcljkaa

