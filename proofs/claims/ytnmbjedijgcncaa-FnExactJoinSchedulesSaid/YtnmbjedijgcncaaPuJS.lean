/-
  JoinSchedules: what program and reference compute, and the law. Plain Lean, no program, no condition.
-/
import Derived.Test.YtnmbjedijgcncaaDGr
import Derived.Test.YtnmbjedijgcncaaDN
import Derived.Test.YtnmbjedijgcncaaDV
import Derived.Test.YtnmbjedijgcncaaPuN
namespace Go.Proofs.Ytnmbjedijgcncaa
open Go Am
set_option linter.unusedVariables false
set_option linter.unusedSimpArgs false

def joinOf (n : Int) (rs : List (List Int)) (m : Int) (ts : List (List Int)) : Int × List (List Int) × Int :=
  if isSch n rs && isSch m ts then if n = m then if rs.length + ts.length ≤ 40 then (n, rs ++ ts, 0) else (0, [], 3) else (0, [], 2) else (0, [], 1)
theorem join_s {fu : Nat} (hf : Big fu) (n : Int) {rs : List (List Int)} (hA : All 14 rs) (hl : rs.length ≤ 4294967296) (m : Int) {ts : List (List Int)} (hA' : All 14 ts) (hl' : ts.length ≤ 4294967296) : D_spec_JoinSchedules fu n rs m ts = some (joinOf n rs m ts) := by
  unfold D_spec_JoinSchedules joinOf
  rw [l01Is_D hf n hA hl, Option.bind_some]
  cases h : isSch n rs with
  | false => rfl
  | true =>
    rw [Bool.not_true, bif_false, l01Is_D hf m hA' hl', Option.bind_some, Option.bind_some, Bool.true_and]
    cases h' : isSch m ts with
    | false => rfl
    | true =>
      obtain ⟨_, h40⟩ := isSch_of h
      obtain ⟨_, h41⟩ := isSch_of h'
      rw [Bool.not_true, bif_false, if_pos rfl]
      by_cases e : n = m
      · rw [bif_nt e, if_pos e, chk_in64 (by omega) (by omega)]
        by_cases g : rs.length + ts.length ≤ 40
        · rw [bif_df (by omega), if_pos g]
          unfold D_spec_l01Copy
          rw [chk_le (by omega), Option.bind_some]
          dsimp only
          rw [chk_le (by omega)]
        · rw [bif_dt (by omega), if_neg g]
      · rw [bif_nf e, if_neg e]
theorem concat_D {fu : Nat} (hf : Big fu) {rs ts : List (List Int)} (h : rs.length ≤ 40) (h' : ts.length ≤ 40) : D_slices_Concat_Simpl_Round_impl_Round fu [rs, ts] = some (rs ++ ts) := by
  obtain ⟨g, rfl⟩ : ∃ g, fu = g + 1 + 1 + 1 := ⟨fu - 3, by unfold Big at hf; omega⟩
  have e0 : rw3 [rs, ts] 0 = rs := rfl
  have e1 : rw3 [rs, ts] 1 = ts := rfl
  unfold D_slices_Concat_Simpl_Round_impl_Round
  have a0 : D_slices_Concat_Simpl_Round_impl_Round_s0 (g + 1 + 1 + 1) [rs, ts] (0, 0) = some (.go ((rs.length : Int), 1)) := by
    unfold D_slices_Concat_Simpl_Round_impl_Round_s0; dsimp only
    rw [bif_dt (by simp), chk_inR (by omega) (by simp), Int.toNat_zero, e0, chk_in64 (by omega) (by omega), bif_df (by omega), chk_in64 (by omega) (by omega)]
    congr 3; omega
  have a1 : D_slices_Concat_Simpl_Round_impl_Round_s0 (g + 1 + 1 + 1) [rs, ts] ((rs.length : Int), 1) = some (.go ((rs.length : Int) + (ts.length : Int), 2)) := by
    unfold D_slices_Concat_Simpl_Round_impl_Round_s0; dsimp only
    rw [bif_dt (by simp), chk_inR (by omega) (by simp), Int.toNat_one, e1, chk_in64 (by omega) (by omega), bif_df (by omega), chk_in64 (by omega) (by omega)]; rfl
  have a2 : D_slices_Concat_Simpl_Round_impl_Round_s0 (g + 1 + 1 + 1) [rs, ts] ((rs.length : Int) + (ts.length : Int), 2) = some (.out ((rs.length : Int) + (ts.length : Int))) := by
    unfold D_slices_Concat_Simpl_Round_impl_Round_s0; dsimp only
    rw [bif_df (by simp)]
  have b0 : D_slices_Concat_Simpl_Round_impl_Round_s1 (g + 1 + 1 + 1) [rs, ts] ([], 0) = some (.go (rs, 1)) := by
    unfold D_slices_Concat_Simpl_Round_impl_Round_s1; dsimp only
    rw [bif_dt (by simp), chk_inR (by omega) (by simp), Int.toNat_zero, e0, chk_t (by simp; omega), chk_in64 (by omega) (by omega)]; rfl
  have b1 : D_slices_Concat_Simpl_Round_impl_Round_s1 (g + 1 + 1 + 1) [rs, ts] (rs, 1) = some (.go (rs ++ ts, 2)) := by
    unfold D_slices_Concat_Simpl_Round_impl_Round_s1; dsimp only
    rw [bif_dt (by simp), chk_inR (by omega) (by simp), Int.toNat_one, e1, chk_t (by omega), chk_in64 (by omega) (by omega)]; rfl
  have b2 : D_slices_Concat_Simpl_Round_impl_Round_s1 (g + 1 + 1 + 1) [rs, ts] (rs ++ ts, 2) = some (.out (rs ++ ts)) := by
    unfold D_slices_Concat_Simpl_Round_impl_Round_s1; dsimp only
    rw [bif_df (by simp)]
  rw [loop_go a0, loop_go a1, loop_out a2, Option.bind_some]
  unfold D_slices_Grow_Simpl_Round_impl_Round
  rw [chk_t ⟨by omega, by omega⟩, Option.bind_some, loop_go b0, loop_go b1, loop_out b2]; rfl
theorem join_i {fu : Nat} (hf : Big fu) (n : Int) {rs : List (List Int)} (hA : All 14 rs) (hl : rs.length ≤ 4294967296) (m : Int) {ts : List (List Int)} (hA' : All 14 ts) (hl' : ts.length ≤ 4294967296) : D_impl_JoinSchedules fu n rs m ts = some (joinOf n rs m ts) := by
  unfold D_impl_JoinSchedules joinOf
  rw [IsSchedule_D hf n hA hl, Option.bind_some]
  cases h : isSch n rs with
  | false => rfl
  | true =>
    rw [Bool.not_true, bif_false, IsSchedule_D hf m hA' hl', Option.bind_some, Option.bind_some, Bool.true_and]
    cases h' : isSch m ts with
    | false => rfl
    | true =>
      obtain ⟨_, h40⟩ := isSch_of h
      obtain ⟨_, h41⟩ := isSch_of h'
      rw [Bool.not_true, bif_false, if_pos rfl]
      by_cases e : n = m
      · rw [bif_nt e, if_pos e, chk_in64 (by omega) (by omega)]
        by_cases g : rs.length + ts.length ≤ 40
        · rw [bif_df (by omega), if_pos g, concat_D hf h40 h41, Option.bind_some]
          unfold D_impl_Schedule_with D_slices_Clone_Simpl_Round_impl_Round
          rw [chk_t (by rw [List.length_append]; omega)]; rfl
        · rw [bif_dt (by omega), if_neg g]
      · rw [bif_nf e, if_neg e]
theorem all_append {k : Nat} {a b : List (List Int)} (ha : All k a) (hb : All k b) : All k (a ++ b) := fun r h => (List.mem_append.1 h).elim (ha r) (hb r)
theorem join_small (n : Int) {rs : List (List Int)} (hA : All 14 rs) (m : Int) {ts : List (List Int)} (hA' : All 14 ts) : All 14 (joinOf n rs m ts).2.1 ∧ (joinOf n rs m ts).2.1.length ≤ 40 := by
  unfold joinOf
  split
  · split
    · split
      · rename_i g
        exact ⟨all_append hA hA', by rw [List.length_append]; exact g⟩
      · exact ⟨all_nil, Nat.zero_le _⟩
    · exact ⟨all_nil, Nat.zero_le _⟩
  · exact ⟨all_nil, Nat.zero_le _⟩
theorem szJ {l0 : Int} {k : Nat} (h : szv 1048576 k = l0) (h0 : ¬ l0 < 0) : l0 = 1048576 - k := by
  unfold szv at h
  split at h <;> omega
theorem szJ2 {l : Int} {k : Nat} (h1 : l ≤ 1048576) (h : ¬ szv l k < 0) : k ≤ 1048576 := by
  unfold szv at h
  split at h <;> omega
theorem join_law {fu : Nat} (hf : Big fu) (n : Int) {rs : List (List Int)} (hA : All 14 rs) (hl : rs.length ≤ 9223372036854775807) (n' : Int) {ts : List (List Int)} (hA' : All 14 ts) (hl' : ts.length ≤ 9223372036854775807) : D_laws_FnExactJoinSchedules fu n rs n' ts = some true := by
  unfold D_laws_FnExactJoinSchedules
  rw [szSchedule_D (by omega) (by omega) hl, Option.bind_some]
  by_cases h : szv 1048576 rs.length < 0
  · rw [bif_dt h]
  · have hz := szv_pos h
    rw [bif_df h]
    generalize hl0 : szv 1048576 rs.length = l0 at h
    have hv0 := szJ hl0 h
    rw [szSchedule_D (by omega) (by omega) hl', Option.bind_some]
    by_cases h2 : szv l0 ts.length < 0
    · rw [bif_dt h2]
    · have hz2 := szJ2 (by omega) h2
      rw [bif_df h2]
      have e1 := join_s hf n hA (by omega) n' hA' (by omega)
      have e2 := join_i hf n hA (by omega) n' hA' (by omega)
      obtain ⟨w1, w2⟩ := join_small n hA n' hA'
      generalize joinOf n rs n' ts = w at e1 e2 w1 w2
      obtain ⟨m, ws, c⟩ := w
      have t1 := tot14 hA
      have t2 := tot14 hA'
      have t3 := tot14 w1
      have w2' : ws.length ≤ 40 := w2
      have w1' : All 14 ws := w1
      have t3' : totR ws = 14 * ws.length := t3
      have hr' : rs.length ≤ 4294967296 := by omega
      have ht' : ts.length ≤ 4294967296 := by omega
      have m1 := markSchedule_D hf (n := n) (k := 1) hA hr' (by omega) (by omega)
      have m1' := markSchedule_D hf (n := n') (k := 1 + totR rs) hA' ht' (by omega) (by omega)
      have m2 := markSchedule_D hf (n := m) (k := 1) w1' (by omega) (by omega) (by omega)
      have m3 := heldSchedule_D hf (n := m) (k := 1) w1' (by omega) (by omega) (by omega)
      simp (disch := omega) only [toSchedule_D hf hA hr', toSchedule_D hf hA' ht', e1, e2, Option.bind_some, eqSchedule_D hf hA hA hr', eqSchedule_D hf hA' hA' ht', eqSchedule_D hf w1' w1' (by omega), decide_true, Bool.and_true, Bool.not_true, bif_false, m1, m1', m2, m3, bif_df, bif_nt]
end Go.Proofs.Ytnmbjedijgcncaa

