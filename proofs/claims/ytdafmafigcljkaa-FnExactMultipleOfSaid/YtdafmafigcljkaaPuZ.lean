/-
  IsStarter and SumsOf: the laws. Plain Lean, no program, no condition.
-/
import Derived.Test.YtdafmafigcljkaaDA
import Derived.Test.YtdafmafigcljkaaDMb
import Derived.Test.YtdafmafigcljkaaPuSt
namespace Go.Proofs.Ytdafmafigcljkaa
open Go Am
set_option linter.unusedVariables false
set_option linter.unusedSimpArgs false

theorem l03Is_D {fu : Nat} (hf : Big fu) {m : Int} (hn : 3 ≤ m ∧ m ≤ 13 ∧ m % 2 = 1) {ps : List (List Int)} (hl : ps.length ≤ 4294967296) (hok : ∀ p ∈ ps, okS m p = true) : D_spec_l03Is fu m ps = some (isSt m ps) := by
  have hd : (m - 1).tdiv 2 = (m - 1) / 2 := Int.tdiv_eq_ediv_of_nonneg (by omega)
  rw [← st_eq hn hok]
  unfold D_spec_l03Is
  rw [chk_in64 (by omega) (by omega), chk_and (by decide) ⟨by omega, by omega⟩]
  by_cases h : (ps.length : Int) = (m - 1).tdiv 2
  · rw [bif_nt h, decide_eq_true h, chk_and (by omega) (by omega), chk_and (by omega) (by omega), l03Is_loop hf hn hl hok, Bool.true_and]
    cases (List.range ps.length).all (good m ps) <;> rfl
  · rw [bif_nf h, decide_eq_false h]; rfl
def stCode (m : Int) (ps : List (List Int)) : Int := if isMod m && ps.all (okS m) then if isSt m ps then 0 else 1 else 2
theorem l03Code_D {fu : Nat} (hf : Big fu) (m : Int) {ps : List (List Int)} (hl : ps.length ≤ 4294967296) : D_spec_l03Code fu m ps = some (stCode m ps) := by
  unfold D_spec_l03Code stCode
  rw [l03Modulus_D, Option.bind_some]
  cases hm : isMod m with
  | false => rfl
  | true =>
    have hn := isMod_of hm
    rw [Bool.not_true, bif_false, l03Lists_D hf ⟨hn.1, hn.2.1⟩ hl, Option.bind_some]
    cases hok : ps.all (okS m) with
    | false => rfl
    | true =>
      rw [List.all_eq_true] at hok
      rw [Bool.not_true, Option.bind_some, bif_false, l03Is_D hf hn hl hok]
      cases isSt m ps <;> rfl
/-! SumsOf -/
def sum1 (m : Int) (p : List Int) : Int := (rd p 0 + rd p 1).tmod m
theorem map_take_rw' {f : List Int → Int} {rs : List (List Int)} {k : Nat} (h : k < rs.length) : (rs.take k).map f ++ [f (rw_ rs k)] = (rs.take (k + 1)).map f := by rw [take_rw h, List.map_append]; rfl
theorem stCode_zero {m : Int} {ps : List (List Int)} (h : stCode m ps = 0) : (3 ≤ m ∧ m ≤ 13 ∧ m % 2 = 1) ∧ (∀ p ∈ ps, okS m p = true) ∧ 2 * (ps.length : Int) = m - 1 := by
  unfold stCode at h
  split at h
  · rename_i h1
    rw [Bool.and_eq_true] at h1
    split at h
    · rename_i h2
      unfold isSt at h2
      simp only [Bool.and_eq_true, decide_eq_true_eq] at h2
      exact ⟨isMod_of h1.1, List.all_eq_true.1 h1.2, h2.2.1⟩
    · cases h
  · cases h
theorem sums_loop {fu : Nat} (hf : Big fu) {m : Int} {ps : List (List Int)} (h : stCode m ps = 0) : loopF (D_spec_l03Sums_s0 fu m ps) fu ([], 0) = some (ps.map (sum1 m)) := by
  obtain ⟨hn, hok, hl⟩ := stCode_zero h
  unfold Big at hf
  rw [loop_seq (fun k => ((ps.take k).map (sum1 m), (k : Int))) ps.length (ps.map (sum1 m)) (by omega) ?_ ?_ (s := ([], 0)) (by simp)]
  · intro k hk
    obtain ⟨o0, o1, o2, o3⟩ := okS_of (hok _ (rw_mem hk))
    have hm : ((ps.take k).map (sum1 m)).length = k := by simp; omega
    unfold D_spec_l03Sums_s0
    simp (disch := omega) only [chk_inR, chk_in64, chk_ne, chk_le, bif_dt, Int.toNat_natCast]
    rw [← map_take_rw' hk]; rfl
  · unfold D_spec_l03Sums_s0
    simp (disch := omega) only [bif_df]
    rw [List.take_length]
def sumsOf (m : Int) (ps : List (List Int)) : List Int × Int := if stCode m ps = 0 then (ps.map (sum1 m), 0) else ([], stCode m ps)
theorem sumsOf_len (m : Int) (ps : List (List Int)) : (sumsOf m ps).1.length ≤ 6 := by
  unfold sumsOf
  split
  · rename_i h
    obtain ⟨hn, hok, hl2⟩ := stCode_zero h
    simp; omega
  · simp
theorem tot_small : ∀ {rs : List (List Int)} {l : Int}, 0 ≤ l → ¬ szR l rs < 0 → (totR rs : Int) ≤ l
  | [], l, h0, _ => by simp [totR]; omega
  | q :: rs, l, h0, h => by
    rw [szR] at h
    split at h
    · omega
    · rename_i hz
      have e : szv l q.length = l - q.length := by unfold szv at *; split at hz <;> rename_i h2; omega; rw [if_neg h2]
      have := tot_small (rs := rs) (by omega) h
      have e2 : totR (q :: rs) = q.length + totR rs := by simp [totR]
      omega
end Go.Proofs.Ytdafmafigcljkaa

