
/-
  ScheduleOfStarter: what program and reference compute, and the law. Plain Lean, no program, no condition.
-/
import Derived.Test.YtpaaoafgahbokaaPuZ
import Derived.Test.YtpaaoafgahbokaaPuT
namespace Go.Proofs.Ytpaaoafgahbokaa
open Go Am
set_option linter.unusedVariables false
set_option linter.unusedSimpArgs false

theorem mod2 {m x : Int} (hm : 0 < m) (h0 : 0 ≤ x) (h1 : x < 2 * m) : x.tmod m = if x < m then x else x - m := by
  rw [Int.tmod_eq_emod_of_nonneg h0]
  by_cases h : x < m
  · rw [if_pos h, Int.emod_eq_of_lt h0 h]
  · rw [if_neg h]
    have : x = (x - m) + m := by omega
    rw [this, Int.add_emod_right, Int.emod_eq_of_lt (by omega) (by omega)]; omega
theorem map_take' {f : List Int → List Int} {rs : List (List Int)} {k : Nat} (h : k < rs.length) : (rs.take k).map f ++ [f (rw_ rs k)] = (rs.take (k + 1)).map f := by rw [take_rw h, List.map_append]; rfl
def shp (m r : Int) (p : List Int) : List Int := [(rd p 0 + r).tmod m, (rd p 1 + r).tmod m]
def ownR (m r : Int) (ps : List (List Int)) : List (List Int) := [m, r] :: ps.map (shp m r)
theorem shp_ok {m r : Int} {p : List Int} (hm : 3 ≤ m ∧ m ≤ 13) (hr : 0 ≤ r ∧ r < m) (h : okS m p = true) : okP (m + 1) (shp m r p) = true ∧ (0 ≤ (rd p 0 + r).tmod m ∧ (rd p 0 + r).tmod m < m) ∧ (0 ≤ (rd p 1 + r).tmod m ∧ (rd p 1 + r).tmod m < m) := by
  obtain ⟨h0, h1, h2, h3⟩ := okS_of h
  have e0 := mod2 (m := m) (x := rd p 0 + r) (by omega) (by omega) (by omega)
  have e1 := mod2 (m := m) (x := rd p 1 + r) (by omega) (by omega) (by omega)
  have b0 : 0 ≤ (rd p 0 + r).tmod m ∧ (rd p 0 + r).tmod m < m := by rw [e0]; split <;> omega
  have b1 : 0 ≤ (rd p 1 + r).tmod m ∧ (rd p 1 + r).tmod m < m := by rw [e1]; split <;> omega
  refine ⟨?_, b0, b1⟩
  have n1 : ¬ (rd p 0 + r).tmod m = (rd p 1 + r).tmod m := by rw [e0, e1]; split <;> split <;> omega
  unfold okP shp
  have z0 : rd [(rd p 0 + r).tmod m, (rd p 1 + r).tmod m] 0 = (rd p 0 + r).tmod m := rfl
  have z1 : rd [(rd p 0 + r).tmod m, (rd p 1 + r).tmod m] 1 = (rd p 1 + r).tmod m := rfl
  rw [z0, z1, inB_t ⟨b0.1, by omega⟩, inB_t ⟨b1.1, by omega⟩, decide_eq_false n1]; rfl
theorem own_ok {m r : Int} {ps : List (List Int)} (hm : 3 ≤ m ∧ m ≤ 13) (hr : 0 ≤ r ∧ r < m) (h : ∀ p ∈ ps, okS m p = true) : ∀ p ∈ ownR m r ps, okP (m + 1) p = true := by
  intro p hp
  rcases List.mem_cons.1 hp with rfl | hp
  · unfold okP
    have z0 : rd [m, r] 0 = m := rfl
    have z1 : rd [m, r] 1 = r := rfl
    have n1 : ¬ m = r := by omega
    rw [z0, z1, inB_t ⟨by omega, by omega⟩, inB_t ⟨by omega, by omega⟩, decide_eq_false n1]; rfl
  · obtain ⟨q, hq, rfl⟩ := List.mem_map.1 hp
    exact (shp_ok hm hr (h q hq)).1
theorem own_len (m r : Int) (ps : List (List Int)) : (ownR m r ps).length = ps.length + 1 := by simp [ownR]
theorem own_rw {m r : Int} {ps : List (List Int)} {k : Nat} (h : k < ps.length) : rw_ (ownR m r ps) (k + 1) = shp m r (rw_ ps k) := by
  simp [ownR, rw_, List.getD_eq_getElem?_getD, h]
def rndS (m : Int) (ps : List (List Int)) (r : Nat) : List Int := RR (m + 1) (ownR m r ps) (ps.length + 1)
def schS (m : Int) (ps : List (List Int)) : List (List Int) := (List.range m.toNat).map (rndS m ps)
theorem sSched_D {fu : Nat} (hf : Big fu) {m : Int} {ps : List (List Int)} (hm : 3 ≤ m ∧ m ≤ 13) (hl : ps.length ≤ 100) (hok : ∀ p ∈ ps, okS m p = true) : D_spec_l03Schedule fu m ps = some (m + 1, schS m ps) := by
  have hf' := hf
  unfold Big at hf
  unfold D_spec_l03Schedule
  rw [chk_in64 (by omega) (by omega)]
  rw [loop_seq (fun k => ((List.range k).map (rndS m ps), (k : Int))) m.toNat (schS m ps) (by omega) ?_ ?_ (s := ([], 0)) rfl]
  · rfl
  · intro r hr
    unfold D_spec_l03Schedule_s0
    dsimp only
    rw [bif_dt (by omega)]
    rw [loop_seq (fun k => ([m, (r : Int)] :: (ps.take k).map (shp m r), (k : Int))) ps.length (ownR m r ps) (by omega) ?_ ?_ (s := ([[m, (r : Int)]], 0)) rfl]
    · have h1 := own_len m r ps
      have : ((List.range r).map (rndS m ps)).length = r := by simp
      rw [Option.bind_some, chk_in64 (by omega) (by omega), l01Made_D hf' ⟨by omega, by omega⟩ (by omega) (own_ok hm ⟨by omega, by omega⟩ hok), h1]
      simp (disch := omega) only [Option.bind_some, chk_le, chk_in64]
      rw [show RR (m + 1) (ownR m r ps) (ps.length + 1) = rndS m ps r from rfl, range_app (rndS m ps)]; rfl
    · intro k hk
      obtain ⟨h0, h1, h2, h3⟩ := okS_of (hok _ (rw_mem hk))
      have : ([m, (r : Int)] :: (ps.take k).map (shp m r)).length ≤ k + 1 := by rw [List.length_cons, List.length_map, List.length_take]; omega
      unfold D_spec_l03Schedule_s1
      dsimp only
      rw [bif_dt (by omega), Int.toNat_natCast]
      simp (disch := omega) only [chk_inR, chk_in64, chk_ne, chk_le]
      rw [List.cons_append, show [(rd (rw_ ps k) 0 + (r : Int)).tmod m, (rd (rw_ ps k) 1 + (r : Int)).tmod m] = shp m r (rw_ ps k) from rfl, map_take' hk]; rfl
    · unfold D_spec_l03Schedule_s1
      simp (disch := omega) only [bif_df, List.take_length]; rfl
  · unfold D_spec_l03Schedule_s0
    simp (disch := omega) only [bif_df]; rfl
theorem iSched_loop {fu : Nat} (hf : Big fu) {m : Int} {ps : List (List Int)} (hm : 3 ≤ m ∧ m ≤ 13) (hl : ps.length ≤ 100) (hok : ∀ p ∈ ps, okS m p = true) : loopF (D_impl_ScheduleOfStarter_s0 fu m ps) fu ([], 0) = some (schS m ps) := by
  have hf' := hf
  unfold Big at hf
  rw [loop_seq (fun k => ((List.range k).map (rndS m ps), (k : Int))) m.toNat (schS m ps) (by omega) ?_ ?_ (s := ([], 0)) rfl]
  · intro r hr
    unfold D_impl_ScheduleOfStarter_s0
    dsimp only
    rw [bif_dt (by omega), chk_in64 (by omega) (by omega), free_D hf' ⟨by omega, by omega⟩, Option.bind_some, meet_D ⟨by omega, by omega⟩ ⟨by omega, by omega⟩, Option.bind_some]
    rw [loop_seq (fun k => (RR (m + 1) (ownR m r ps) (k + 1), (k : Int))) ps.length (rndS m ps r) (by omega) ?_ ?_ (s := (((frI (m + 1).toNat).set m.toNat (r : Int)).set (r : Int).toNat m, 0)) rfl]
    · have : ((List.range r).map (rndS m ps)).length = r := by simp
      simp (disch := omega) only [Option.bind_some, chk_le, chk_in64]
      rw [range_app (rndS m ps)]; rfl
    · intro k hk
      obtain ⟨h0, h1, h2, h3⟩ := okS_of (hok _ (rw_mem hk))
      obtain ⟨_, b0, b1⟩ := shp_ok (r := r) hm ⟨by omega, by omega⟩ (hok _ (rw_mem hk))
      unfold D_impl_ScheduleOfStarter_s1
      dsimp only
      rw [bif_dt (by omega), Int.toNat_natCast]
      simp (disch := omega) only [chk_inR, chk_in64, chk_ne, meet_D, Option.bind_some]
      rw [RR_succ (k := k + 1) (by rw [own_len]; omega), own_rw hk]; rfl
    · unfold D_impl_ScheduleOfStarter_s1
      simp (disch := omega) only [bif_df]; rfl
  · unfold D_impl_ScheduleOfStarter_s0
    simp (disch := omega) only [bif_df]; rfl
def schOf (m : Int) (ps : List (List Int)) : Int × List (List Int) × Int := if stCode m ps = 0 then (m + 1, schS m ps, 0) else (0, [], stCode m ps)
theorem stCode_of {m : Int} {ps : List (List Int)} (h : stCode m ps = 0) : (3 ≤ m ∧ m ≤ 13) ∧ (∀ p ∈ ps, okS m p = true) := by
  unfold stCode at h
  split at h
  · rename_i h1
    rw [Bool.and_eq_true, List.all_eq_true] at h1
    have := isMod_of h1.1
    exact ⟨⟨this.1, this.2.1⟩, h1.2⟩
  · exact absurd h (by decide)
theorem stCode_len {m : Int} {ps : List (List Int)} (h : stCode m ps = 0) : ps.length ≤ 100 := by
  have h0 := (stCode_of h).1
  unfold stCode at h
  split at h
  · split at h
    · rename_i h1
      unfold isSt at h1
      simp only [Bool.and_eq_true, decide_eq_true_eq] at h1
      omega
    · exact absurd h (by decide)
  · exact absurd h (by decide)
theorem schOf_eqs {fu : Nat} (hf : Big fu) (m : Int) {ps : List (List Int)} (hl : ps.length ≤ 4294967296) : D_spec_ScheduleOfStarter fu m ps = some (schOf m ps) ∧ D_impl_ScheduleOfStarter fu m ps = some (schOf m ps) := by
  unfold D_spec_ScheduleOfStarter D_impl_ScheduleOfStarter schOf
  rw [l03Code_D hf m hl, starterCode_D hf m hl, Option.bind_some, Option.bind_some]
  by_cases h : stCode m ps = 0
  · obtain ⟨hm, hok⟩ := stCode_of h
    have hl' := stCode_len h
    rw [bif_nt h, bif_nt h, if_pos h, sSched_D hf hm hl' hok, chk_in64 (by omega) (by omega), iSched_loop hf hm hl' hok]
    exact ⟨rfl, rfl⟩
  · rw [bif_nf h, bif_nf h, if_neg h]
    exact ⟨rfl, rfl⟩
theorem schOf_all (m : Int) (ps : List (List Int)) : All 14 (schOf m ps).2.1 ∧ (schOf m ps).2.1.length ≤ 13 := by
  unfold schOf
  by_cases h : stCode m ps = 0
  · obtain ⟨hm, hok⟩ := stCode_of h
    rw [if_pos h]
    refine ⟨?_, ?_⟩
    · intro r hr
      obtain ⟨k, hk, rfl⟩ := List.mem_map.1 hr
      exact RR_len _ _ _
    · show (schS m ps).length ≤ 13
      unfold schS; rw [List.length_map, List.length_range]; omega
  · rw [if_neg h]
    exact ⟨fun r h => absurd h List.not_mem_nil, Nat.zero_le _⟩
theorem schOf_law {fu : Nat} (hf : Big fu) (m : Int) {ps : List (List Int)} (hl : ps.length ≤ 9223372036854775807) (hr : ∀ r ∈ ps, r.length ≤ 9223372036854775807) : D_laws_FnExactScheduleOfStarter fu m ps = some true := by
  unfold D_laws_FnExactScheduleOfStarter
  rw [szInt64SS_D hf (by omega) (by omega) hl hr, Option.bind_some]
  by_cases h : (if szv 1048576 ps.length < 0 then -1 else szR (szv 1048576 ps.length) ps) < 0
  · rw [bif_dt h]
  · obtain ⟨h1, h2⟩ := sz_small h
    have h3 := sz_tot h
    have hs : Small ps := ⟨by omega, fun r hr => by have := h2 r hr; omega⟩
    rw [bif_df h]
    obtain ⟨e1, e2⟩ := schOf_eqs hf m hs.1
    obtain ⟨w1, w2⟩ := schOf_all m ps
    generalize schOf m ps = w at e1 e2 w1 w2
    obtain ⟨q, ws, c⟩ := w
    have t2 := tot14 w1
    have m1 := markInt64SS_D hf (k := 1) hs (by omega) (by omega)
    have m2 := markSchedule_D hf (n := q) (k := 1) w1 (by omega) (by omega) (by omega)
    have m3 := heldSchedule_D hf (n := q) (k := 1) w1 (by omega) (by omega) (by omega)
    simp (disch := omega) only [toInt64SS_D hf hs, e1, e2, Option.bind_some, eqSchedule_D hf w1 w1 (by omega), eqInt64SS_D hf hs, decide_true, Bool.and_true, Bool.not_true, bif_false, m1, m2, m3, bif_df, bif_nt]
end Go.Proofs.Ytpaaoafgahbokaa

