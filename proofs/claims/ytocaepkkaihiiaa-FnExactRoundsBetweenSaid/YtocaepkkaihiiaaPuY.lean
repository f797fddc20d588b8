/-
  AddRound, OpponentsOf, RoundsBetween: the laws. Plain Lean, no program, no condition.
-/
import Derived.Test.YtocaepkkaihiiaaPuN
import Derived.Test.YtocaepkkaihiiaaDY
namespace Go.Proofs.Ytocaepkkaihiiaa
open Go Am
set_option linter.unusedVariables false
set_option linter.unusedSimpArgs false
theorem addRound_law {fu : Nat} (hf : Big fu) (n : Int) {rs : List (List Int)} (hA : All 14 rs) (hl : rs.length ≤ 9223372036854775807) {r : List Int} (hr : r.length = 14) : D_laws_FnExactAddRound fu n rs r = some true := by
  unfold D_laws_FnExactAddRound
  rw [szSchedule_D (by omega) (by omega) hl, Option.bind_some]
  by_cases h : szv 1048576 rs.length < 0
  · rw [bif_dt h]
  · have hz := szv_pos h
    have hl' : rs.length ≤ 4294967296 := by omega
    obtain ⟨w1, w2⟩ := addRound_all (n := n) hA hr
    have t1 := tot14 hA
    have t2 := tot14 w1
    rw [bif_df h]
    generalize hw : addRound n rs r = w at w1 w2 t2
    obtain ⟨m, ws, c⟩ := w
    have m1 := markSchedule_D hf (n := n) (k := 1) hA hl' (by omega) (by omega)
    have m2 := markSchedule_D hf (n := m) (k := 1) w1 (by omega) (by omega) (by omega)
    have m3 := heldSchedule_D hf (n := m) (k := 1) w1 (by omega) (by omega) (by omega)
    simp (disch := omega) only [toSchedule_D hf hA hl', toRound_D hf hr, addRound_sD hf n hA hl' hr, addRound_iD hf n hA hl' hr, hw, Option.bind_some, eqSchedule_D hf w1 w1 (by omega), eqSchedule_D hf hA hA hl', decide_true, Bool.and_true, Bool.not_true, bif_false, m1, m2, m3, bif_df, bif_nt]

/-! OpponentsOf -/
theorem l01Teams_D {fu : Nat} (hf : Big fu) (n : Int) {rs : List (List Int)} (hA : All 14 rs) (hl : rs.length ≤ 4294967296) {as : List Int} (ha : as.length ≤ 100) : D_spec_l01Teams fu n rs as = some (if isSch n rs then if as.all (fun a => inB a 0 (n - 1)) then 0 else 2 else 1) := by
  have hf' := hf
  unfold Big at hf
  unfold D_spec_l01Teams
  rw [l01Is_D hf' n hA hl, Option.bind_some]
  cases h : isSch n rs with
  | false => rfl
  | true =>
    obtain ⟨hn, h40⟩ := isSch_of h
    rw [Bool.not_true, bif_false]
    rw [loop_find (fun k => (k : Int)) (fun k => inB (rd as k) 0 (n - 1)) as.length (.inl ()) (fun _ => .inr 2) (by omega) ?_ ?_ ?_ (s := 0) rfl]
    · rw [← all_rd (p := fun a => inB a 0 (n - 1))]
      by_cases h : firstNot (fun k => inB (rd as k) 0 (n - 1)) as.length < as.length
      · rw [if_pos h, if_pos rfl, if_neg (fun h' => all_range.1 h' h)]; rfl
      · rw [if_neg h, if_pos rfl, if_pos (all_range.2 h)]; rfl
    all_goals first | (intro k hk hp _) | intro _
    all_goals unfold D_spec_l01Teams_s0
    · simp (disch := omega) only [chk_inR, chk_in64, bif_dt, Int.toNat_natCast, l01In_D, hp, Option.bind_some, Bool.not_true, bif_false]; rfl
    · simp (disch := omega) only [chk_inR, chk_in64, bif_dt, Int.toNat_natCast, l01In_D, hp, Option.bind_some, Bool.not_false, bif_true]
    · simp (disch := omega) only [bif_df]
def opp1 (t : Int) (r : List Int) : Int := if rd r t.toNat = t then -1 else rd r t.toNat
def oppsOf (n : Int) (rs : List (List Int)) (t : Int) : List Int × Int := if isSch n rs then if inB t 0 (n - 1) then (rs.map (opp1 t), 0) else ([], 2) else ([], 1)
theorem map_take_rw {f : List Int → Int} {rs : List (List Int)} {k : Nat} (h : k < rs.length) : (rs.take k).map f ++ [f (rw_ rs k)] = (rs.take (k + 1)).map f := by rw [take_rw h, List.map_append]; rfl
theorem map_take_len {f : List Int → Int} {rs : List (List Int)} {k : Nat} (h : k < rs.length) : ((rs.take k).map f).length = k := by simp; omega
theorem opps_sD {fu : Nat} (hf : Big fu) (n : Int) {rs : List (List Int)} (hA : All 14 rs) (hl : rs.length ≤ 4294967296) (t : Int) : D_spec_OpponentsOf fu n rs t = some (oppsOf n rs t) := by
  have hf' := hf
  unfold Big at hf
  unfold D_spec_OpponentsOf oppsOf
  rw [l01Teams_D hf' n hA hl (by simp), Option.bind_some]
  cases h : isSch n rs with
  | false => rfl
  | true =>
    obtain ⟨hn, h40⟩ := isSch_of h
    simp only [List.all_cons, List.all_nil, Bool.and_true]
    cases ht : inB t 0 (n - 1) with
    | false => rfl
    | true =>
      have ht' := inB_of ht
      simp only [if_true, decide_true, Bool.not_true, bif_false]
      rw [loop_seq (fun k => ((rs.take k).map (opp1 t), (k : Int))) rs.length (rs.map (opp1 t)) (by omega) ?_ ?_ (s := ([], 0)) (by simp)]
      · rfl
      · intro k hk
        have hm := map_take_len (f := opp1 t) hk
        have hr := hA _ (rw_mem hk)
        unfold D_spec_OpponentsOf_s0
        by_cases he : rd (rw_ rs k) t.toNat = t
        · simp (disch := omega) only [chk_inR, chk_in64, chk_le, bif_dt, Int.toNat_natCast]
          rw [← map_take_rw hk]; unfold opp1; rw [if_pos he]; rfl
        · simp (disch := omega) only [chk_inR, chk_in64, chk_le, bif_dt, bif_df, Int.toNat_natCast]
          rw [← map_take_rw hk]; unfold opp1; rw [if_neg he]; rfl
      · unfold D_spec_OpponentsOf_s0
        simp (disch := omega) only [bif_df]
        rw [List.take_length]
theorem hasTeam_D {fu : Nat} {n : Int} (hn : 2 ≤ n ∧ n ≤ 14) (rs : List (List Int)) (t : Int) : D_impl_Schedule_hasTeam fu n rs t = some (inB t 0 (n - 1)) := by
  unfold D_impl_Schedule_hasTeam
  rw [chk_in64 (by omega) (by omega), between_D]; rfl
theorem opps_iD {fu : Nat} (hf : Big fu) (n : Int) {rs : List (List Int)} (hA : All 14 rs) (hl : rs.length ≤ 4294967296) (t : Int) : D_impl_OpponentsOf fu n rs t = some (oppsOf n rs t) := by
  have hf' := hf
  unfold Big at hf
  unfold D_impl_OpponentsOf oppsOf
  rw [scheduleCode_D hf' n hA hl (b := inB t 0 (n - 1)) (fun h => by unfold D_impl_OpponentsOf_1; rw [hasTeam_D (isSch_of h).1]; rfl), Option.bind_some]
  cases h : isSch n rs with
  | false => rfl
  | true =>
    obtain ⟨hn, h40⟩ := isSch_of h
    cases ht : inB t 0 (n - 1) with
    | false => rfl
    | true =>
      have ht' := inB_of ht
      simp only [if_true, decide_true, Bool.not_true, bif_false]
      rw [loop_seq (fun k => ((rs.take k).map (opp1 t), (k : Int))) rs.length (rs.map (opp1 t)) (by omega) ?_ ?_ (s := ([], 0)) (by simp)]
      · rfl
      · intro k hk
        have hm := map_take_len (f := opp1 t) hk
        have hr := hA _ (rw_mem hk)
        unfold D_impl_OpponentsOf_s0
        by_cases he : rd (rw_ rs k) t.toNat = t
        · simp (disch := omega) only [chk_inR, chk_in64, chk_le, bif_dt, Int.toNat_natCast, Option.bind_some]
          rw [← map_take_rw hk]; unfold opp1; rw [if_pos he]; rfl
        · simp (disch := omega) only [chk_inR, chk_in64, chk_le, bif_dt, bif_df, Int.toNat_natCast, Option.bind_some]
          rw [← map_take_rw hk]; unfold opp1; rw [if_neg he]; rfl
      · unfold D_impl_OpponentsOf_s0
        simp (disch := omega) only [bif_df]
        rw [List.take_length]
theorem opps_len (n : Int) (rs : List (List Int)) (t : Int) : (oppsOf n rs t).1.length ≤ 40 := by
  unfold oppsOf
  split
  · rename_i h
    obtain ⟨hn, h40⟩ := isSch_of h
    split
    · simp; omega
    · simp
  · simp
theorem opps_law {fu : Nat} (hf : Big fu) (n : Int) {rs : List (List Int)} (hA : All 14 rs) (hl : rs.length ≤ 9223372036854775807) (t : Int) : D_laws_FnExactOpponentsOf fu n rs t = some true := by
  unfold D_laws_FnExactOpponentsOf
  rw [szSchedule_D (by omega) (by omega) hl, Option.bind_some]
  by_cases h : szv 1048576 rs.length < 0
  · rw [bif_dt h]
  · have hz := szv_pos h
    have hl' : rs.length ≤ 4294967296 := by omega
    have w1 := opps_len n rs t
    have t1 := tot14 hA
    rw [bif_df h]
    generalize hw : oppsOf n rs t = w at w1
    obtain ⟨ws, c⟩ := w
    have w2 : ws.length ≤ 40 := w1
    have m1 := markSchedule_D hf (n := n) (k := 1) hA hl' (by omega) (by omega)
    have m2 := markInt64S_D hf (a := ws) (k := 1) (by omega) (by omega) (by omega)
    have m3 := heldInt64S_D hf (n := ws.length) (k := 1) (by omega) (by omega) (by omega)
    simp (disch := omega) only [toSchedule_D hf hA hl', opps_sD hf n hA hl', opps_iD hf n hA hl', hw, Option.bind_some, eqInt64S_D hf (by omega : ws.length ≤ 4294967296), eqSchedule_D hf hA hA hl', decide_true, Bool.and_true, Bool.not_true, bif_false, m1, m2, m3, bif_df, bif_nt]
/-! RoundsBetween -/
def btw (rs : List (List Int)) (a b : Int) (k : Nat) : List Int := ((List.range k).filter fun (i : Nat) => decide (rd (rw_ rs i) a.toNat = b)).map fun (i : Nat) => (i : Int)
theorem btw_succ (rs : List (List Int)) (a b : Int) (k : Nat) : btw rs a b (k + 1) = if rd (rw_ rs k) a.toNat = b then btw rs a b k ++ [(k : Int)] else btw rs a b k := by
  unfold btw
  rw [List.range_succ, List.filter_append, List.map_append]
  by_cases h : rd (rw_ rs k) a.toNat = b <;> simp [h]
theorem btw_len (rs : List (List Int)) (a b : Int) (k : Nat) : (btw rs a b k).length ≤ k := by
  unfold btw; rw [List.length_map]; exact Nat.le_trans (List.length_filter_le ..) (by simp)
def btwOf (n : Int) (rs : List (List Int)) (a b : Int) : List Int × Int := if isSch n rs then if inB a 0 (n - 1) && (inB b 0 (n - 1) && !decide (a = b)) then (btw rs a b rs.length, 0) else ([], 2) else ([], 1)
theorem btw_loop {fu : Nat} (hf : Big fu) {rs : List (List Int)} {a b : Int} (ha : 0 ≤ a ∧ a < 14) (hl : rs.length ≤ 40) : loopF (D_spec_RoundsBetween_s0 fu rs a b) fu ([], 0) = some (btw rs a b rs.length) := by
  unfold Big at hf
  rw [loop_seq (fun k => (btw rs a b k, (k : Int))) rs.length (btw rs a b rs.length) (by omega) ?_ ?_ (s := ([], 0)) rfl]
  · intro k hk
    have hm := btw_len rs a b k
    unfold D_spec_RoundsBetween_s0
    by_cases he : rd (rw_ rs k) a.toNat = b
    · simp (disch := omega) only [chk_inR, chk_in64, chk_le, bif_dt, Int.toNat_natCast]
      rw [btw_succ, if_pos he]; rfl
    · simp (disch := omega) only [chk_inR, chk_in64, chk_le, bif_dt, bif_df, Int.toNat_natCast]
      rw [btw_succ, if_neg he]; rfl
  · unfold D_spec_RoundsBetween_s0
    simp (disch := omega) only [bif_df]
theorem btw_sD {fu : Nat} (hf : Big fu) (n : Int) {rs : List (List Int)} (hA : All 14 rs) (hl : rs.length ≤ 4294967296) (a b : Int) : D_spec_RoundsBetween fu n rs a b = some (btwOf n rs a b) := by
  unfold D_spec_RoundsBetween btwOf
  rw [l01Teams_D hf n hA hl (by simp), Option.bind_some]
  cases h : isSch n rs with
  | false => rfl
  | true =>
    obtain ⟨hn, h40⟩ := isSch_of h
    simp only [List.all_cons, List.all_nil, Bool.and_true]
    cases ha : inB a 0 (n - 1) with
    | false => rfl
    | true =>
      have ha' := inB_of ha
      cases hb : inB b 0 (n - 1) with
      | false => rfl
      | true =>
        by_cases he : a = b
        · simp only [decide_eq_true he]; rfl
        · simp only [decide_eq_false he, Bool.and_false, if_true, Bool.and_true, Bool.true_and, Bool.not_false, bif_false, Option.bind_some, decide_true, Bool.not_true]
          rw [btw_loop hf (by omega) h40]; rfl
theorem btw_iD {fu : Nat} (hf : Big fu) (n : Int) {rs : List (List Int)} (hA : All 14 rs) (hl : rs.length ≤ 4294967296) (a b : Int) : D_impl_RoundsBetween fu n rs a b = some (btwOf n rs a b) := by
  unfold D_impl_RoundsBetween btwOf
  rw [scheduleCode_D hf n hA hl (b := inB a 0 (n - 1) && (inB b 0 (n - 1) && !decide (a = b))) (fun h => by
    unfold D_impl_RoundsBetween_1; rw [hasTeam_D (isSch_of h).1, hasTeam_D (isSch_of h).1]
    cases inB a 0 (n - 1) <;> cases inB b 0 (n - 1) <;> rfl), Option.bind_some]
  cases h : isSch n rs with
  | false => rfl
  | true =>
    obtain ⟨hn, h40⟩ := isSch_of h
    cases ha : inB a 0 (n - 1) && (inB b 0 (n - 1) && !decide (a = b)) with
    | false => rfl
    | true =>
      rw [Bool.and_eq_true] at ha
      have ha' := inB_of ha.1
      simp only [if_true, decide_true, Bool.not_true, bif_false]
      rw [show loopF (D_impl_RoundsBetween_s0 fu rs a b) fu ([], 0) = some (btw rs a b rs.length) from btw_loop hf (by omega) h40]; rfl
theorem btwOf_len (n : Int) (rs : List (List Int)) (a b : Int) : (btwOf n rs a b).1.length ≤ 40 := by
  unfold btwOf
  split
  · rename_i h
    obtain ⟨hn, h40⟩ := isSch_of h
    split
    · have := btw_len rs a b rs.length; show (btw _ _ _ _).length ≤ 40; omega
    · simp
  · simp
theorem btw_law {fu : Nat} (hf : Big fu) (n : Int) {rs : List (List Int)} (hA : All 14 rs) (hl : rs.length ≤ 9223372036854775807) (a b : Int) : D_laws_FnExactRoundsBetween fu n rs a b = some true := by
  unfold D_laws_FnExactRoundsBetween
  rw [szSchedule_D (by omega) (by omega) hl, Option.bind_some]
  by_cases h : szv 1048576 rs.length < 0
  · rw [bif_dt h]
  · have hz := szv_pos h
    have hl' : rs.length ≤ 4294967296 := by omega
    have w1 := btwOf_len n rs a b
    have t1 := tot14 hA
    rw [bif_df h]
    generalize hw : btwOf n rs a b = w at w1
    obtain ⟨ws, c⟩ := w
    have w2 : ws.length ≤ 40 := w1
    have m1 := markSchedule_D hf (n := n) (k := 1) hA hl' (by omega) (by omega)
    have m2 := markInt64S_D hf (a := ws) (k := 1) (by omega) (by omega) (by omega)
    have m3 := heldInt64S_D hf (n := ws.length) (k := 1) (by omega) (by omega) (by omega)
    simp (disch := omega) only [toSchedule_D hf hA hl', btw_sD hf n hA hl', btw_iD hf n hA hl', hw, Option.bind_some, eqInt64S_D hf (by omega : ws.length ≤ 4294967296), eqSchedule_D hf hA hA hl', decide_true, Bool.and_true, Bool.not_true, bif_false, m1, m2, m3, bif_df, bif_nt]
end Go.Proofs.Ytocaepkkaihiiaa
