/-
  What the laws' own helpers compute: copies, sizes, comparisons, marks. Plain Lean, no program, no condition.
-/
import Derived.Test.YtdafmafigcljkaaDL
import Derived.Test.YtdafmafigcljkaaPu0
namespace Go.Proofs.Ytdafmafigcljkaa
open Go Am
set_option linter.unusedVariables false
set_option linter.unusedSimpArgs false

theorem toRound_D {fu : Nat} (hf : Big fu) {r : List Int} (hr : r.length = 14) : D_laws_toRound fu r = some r := by
  unfold Big at hf
  unfold D_laws_toRound
  rw [loop_seq (fun k => (cpy r 14 k, (k : Int))) 14 r (by omega) ?_ ?_ ?_]
  · rfl
  · intro k hk
    unfold D_laws_toRound_s0
    simp (disch := omega) only [chk_inR, chk_in64, bif_dt, Int.toNat_natCast]
    rw [cpy_set _ _ _ hk]; rfl
  · unfold D_laws_toRound_s0
    simp (disch := omega) only [bif_df]
    rw [cpy_full _ _ _ (Nat.le_refl _) hr]
  · rw [cpy_zero]; rfl
theorem toRoundS_D {fu : Nat} (hf : Big fu) {rs : List (List Int)} (hA : All 14 rs) (hl : rs.length ≤ 4294967296) : D_laws_toRoundS fu rs = some rs := by
  have hf' := hf
  unfold Big at hf
  unfold D_laws_toRoundS
  rw [chk_t (by omega), loop_seq (fun k => (cpyR (List.replicate 14 0) rs rs.length k, (k : Int))) rs.length rs (by omega) ?_ ?_ ?_]
  · rfl
  · intro k hk
    unfold D_laws_toRoundS_s0
    simp (disch := omega) only [chk_inR, chk_in64, bif_dt, Int.toNat_natCast, toRound_D hf' (rw_len hA hk), Option.bind_some]
    rw [cpyR_set _ _ _ _ hk]; rfl
  · unfold D_laws_toRoundS_s0
    simp (disch := omega) only [bif_df]
    rw [cpyR_full _ _ _ _ (Nat.le_refl _) rfl]
  · rw [cpyR_zero]; rfl
theorem toSchedule_D {fu : Nat} (hf : Big fu) {tm : Int} {rs : List (List Int)} (hA : All 14 rs) (hl : rs.length ≤ 4294967296) : D_laws_toSchedule fu tm rs = some (tm, rs) := by
  unfold D_laws_toSchedule; rw [toRoundS_D hf hA hl]; rfl
def szv (l : Int) (n : Nat) : Int := if l - n < 0 then -1 else l - n
theorem szv_pos {n : Nat} (h : ¬ szv 1048576 n < 0) : n ≤ 1048576 := by unfold szv at h; split at h <;> omega
theorem szRoundS_D {fu : Nat} {rs : List (List Int)} {l : Int} (h0 : 0 ≤ l) (h1 : l ≤ 1048576) (hl : rs.length ≤ 9223372036854775807) : D_laws_szRoundS fu rs l = some (szv l rs.length) := by
  unfold D_laws_szRoundS szv
  rw [chk_t (by unfold in64; omega)]
  by_cases h : l - (rs.length : Int) < 0
  · rw [bif_dt h, if_pos h]
  · rw [bif_df h, if_neg h]
theorem szSchedule_D {fu : Nat} {tm : Int} {rs : List (List Int)} {l : Int} (h0 : 0 ≤ l) (h1 : l ≤ 1048576) (hl : rs.length ≤ 9223372036854775807) : D_laws_szSchedule fu tm rs l = some (szv l rs.length) := by
  unfold D_laws_szSchedule
  rw [szRoundS_D h0 h1 hl, Option.bind_some]
  by_cases h : szv l rs.length < 0
  · rw [bif_dt h]; unfold szv at *; split at h <;> rename_i h2
    · rw [if_pos h2]
    · omega
  · rw [bif_df h]
theorem eqRound_D {fu : Nat} (hf : Big fu) {r q : List Int} (hr : r.length = 14) (hq : q.length = 14) : D_laws_eqRound fu r q = some (decide (r = q)) := by
  unfold Big at hf
  unfold D_laws_eqRound
  rw [loop_all (fun k => (k : Int)) (fun k => decide (rd r k = rd q k)) 14 (by omega) ?_ ?_ ?_ (s := 0) rfl]
  · have : (List.range 14).all (fun k => decide (rd r k = rd q k)) = decide (r = q) := by
      rw [Bool.eq_iff_iff, List.all_eq_true, decide_eq_true_eq]
      constructor
      · intro h; exact ints_ext (by omega) fun j hj => by simpa using h j (List.mem_range.2 (by omega))
      · rintro rfl; simp
    rw [this]
    by_cases h : r = q
    · subst h; simp
    · simp [h]
  · intro k hk hp _
    have hp' : rd r k = rd q k := by simpa using hp
    unfold D_laws_eqRound_s0
    simp (disch := omega) only [chk_inR, chk_in64, bif_dt, bif_nt, Int.toNat_natCast]
    rfl
  · intro k hk hp _
    have hp' : ¬ rd r k = rd q k := by simpa using hp
    unfold D_laws_eqRound_s0
    simp (disch := omega) only [chk_inR, chk_in64, bif_dt, bif_nf, Int.toNat_natCast]
  · intro _
    unfold D_laws_eqRound_s0
    simp (disch := omega) only [bif_df]
theorem eqRoundS_D {fu : Nat} (hf : Big fu) {rs qs : List (List Int)} (hr : All 14 rs) (hq : All 14 qs) (hl : rs.length ≤ 4294967296) : D_laws_eqRoundS fu rs qs = some (decide (rs = qs)) := by
  have hf' := hf
  unfold Big at hf
  unfold D_laws_eqRoundS
  by_cases hlen : rs.length = qs.length
  · rw [bif_nt (by omega), loop_all (fun k => (k : Int)) (fun k => decide (rw_ rs k = rw_ qs k)) rs.length (by omega) ?_ ?_ ?_ (s := 0) rfl]
    · have : (List.range rs.length).all (fun k => decide (rw_ rs k = rw_ qs k)) = decide (rs = qs) := by
        rw [Bool.eq_iff_iff, List.all_eq_true, decide_eq_true_eq]
        constructor
        · intro h; exact rows_ext hlen fun j hj => by simpa using h j (List.mem_range.2 (by omega))
        · rintro rfl; simp
      rw [this]
      by_cases h : rs = qs
      · subst h; simp
      · simp [h]
    · intro k hk hp _
      have hp' : rw_ rs k = rw_ qs k := by simpa using hp
      unfold D_laws_eqRoundS_s0
      simp (disch := omega) only [chk_inR, chk_in64, bif_dt, Int.toNat_natCast, eqRound_D hf' (rw_len hr hk) (rw_len hq (by omega : k < qs.length)), Option.bind_some, bif_nt hp']
      rfl
    · intro k hk hp _
      have hp' : ¬ rw_ rs k = rw_ qs k := by simpa using hp
      unfold D_laws_eqRoundS_s0
      simp (disch := omega) only [chk_inR, chk_in64, bif_dt, Int.toNat_natCast, eqRound_D hf' (rw_len hr hk) (rw_len hq (by omega : k < qs.length)), Option.bind_some, bif_nf hp']
    · intro _
      unfold D_laws_eqRoundS_s0
      simp (disch := omega) only [bif_df]
  · rw [bif_nf (by omega)]
    congr 1
    exact (decide_eq_false (fun h => hlen (by rw [h]))).symm
theorem eqSchedule_D {fu : Nat} (hf : Big fu) {tm tn : Int} {rs qs : List (List Int)} (hr : All 14 rs) (hq : All 14 qs) (hl : rs.length ≤ 4294967296) : D_laws_eqSchedule fu tm rs tn qs = some (decide (tm = tn) && decide (rs = qs)) := by
  unfold D_laws_eqSchedule
  by_cases h : tm = tn
  · rw [bif_nt h, eqRoundS_D hf hr hq hl, Option.bind_some, decide_eq_true h]
    cases decide (rs = qs) <;> rfl
  · rw [bif_nf h, decide_eq_false h]; rfl
end Go.Proofs.Ytdafmafigcljkaa

