
/-
  AreOpposite: what program and reference compute, and the law. Plain Lean, no program, no condition.
-/
import Derived.Test.YtpaaoafgahbokaaPuV
import Derived.Test.YtpaaoafgahbokaaPuY
namespace Go.Proofs.Ytpaaoafgahbokaa
open Go Am
set_option linter.unusedVariables false
set_option linter.unusedSimpArgs false

def oppAt (v : List Int) (a b : Int) : Bool := decide (rd v a.toNat + rd v b.toNat = 1) || (decide (rd v a.toNat < 0) && decide (rd v b.toNat < 0))
def oppV (vs : List (List Int)) (a b : Int) : Bool := vs.all fun v => oppAt v a b
theorem sOpp_loop {fu : Nat} (hf : Big fu) {n : Int} {rs vs : List (List Int)} (h : isSch n rs = true) (hv : formV n rs vs = true) {a b : Int} (ha : 0 ≤ a ∧ a ≤ n - 1) (hb : 0 ≤ b ∧ b ≤ n - 1) : loopF (D_spec_AreOpposite_s0 fu vs a b) fu 0 = some (if oppV vs a b then .inl () else .inr (false, 0)) := by
  unfold Big at hf
  obtain ⟨hn, h40⟩ := isSch_of h
  obtain ⟨f1, f2⟩ := formV_of hv
  rw [loop_find (fun k => (k : Int)) (fun k => oppAt (rw_ vs k) a b) vs.length (.inl ()) (fun _ => .inr (false, 0)) (by omega) ?_ ?_ ?_ (s := 0) rfl]
  · unfold oppV
    rw [← all_rw (p := fun v => oppAt v a b)]
    by_cases h : firstNot (fun k => oppAt (rw_ vs k) a b) vs.length < vs.length
    · rw [if_pos h, if_neg (fun h' => all_range.1 h' h)]
    · rw [if_neg h, if_pos (all_range.2 h)]
  all_goals first | (intro k hk hp _) | intro _
  · obtain ⟨v1, v2⟩ := f2 _ (rw_mem hk)
    have x1 := v2 _ (rd_mem (by omega : a.toNat < (rw_ vs k).length))
    have x2 := v2 _ (rd_mem (by omega : b.toNat < (rw_ vs k).length))
    unfold oppAt at hp
    unfold D_spec_AreOpposite_s0
    rw [bif_dt (by omega)]
    simp (disch := omega) only [chk_inR, Int.toNat_natCast]
    simp only [Bool.or_eq_true, Bool.and_eq_true, decide_eq_true_eq] at hp
    by_cases c1 : rd (rw_ vs k) a.toNat < 0
    · have c2 : rd (rw_ vs k) b.toNat < 0 := by omega
      simp (disch := omega) only [bif_dt, bif_df, Option.bind_some, bif_false, chk_in64]; rfl
    · have c2 : ¬ rd (rw_ vs k) b.toNat < 0 := by omega
      have c3 : rd (rw_ vs k) a.toNat + rd (rw_ vs k) b.toNat = 1 := by omega
      simp (disch := omega) only [bif_dt, bif_df, Option.bind_some, bif_false, chk_in64, decide_eq_true c3, Bool.not_true]; rfl
  · obtain ⟨v1, v2⟩ := f2 _ (rw_mem hk)
    have x1 := v2 _ (rd_mem (by omega : a.toNat < (rw_ vs k).length))
    have x2 := v2 _ (rd_mem (by omega : b.toNat < (rw_ vs k).length))
    unfold oppAt at hp
    unfold D_spec_AreOpposite_s0
    rw [bif_dt (by omega)]
    simp (disch := omega) only [chk_inR, Int.toNat_natCast]
    simp only [Bool.or_eq_false_iff, Bool.and_eq_false_iff, decide_eq_false_iff_not] at hp
    by_cases c1 : rd (rw_ vs k) a.toNat < 0
    · have c2 : ¬ rd (rw_ vs k) b.toNat < 0 := by omega
      simp (disch := omega) only [bif_dt, bif_df, Option.bind_some, bif_true]
    · by_cases c2 : rd (rw_ vs k) b.toNat < 0
      · simp (disch := omega) only [bif_dt, bif_df, Option.bind_some, bif_true]
      · have c3 : ¬ rd (rw_ vs k) a.toNat + rd (rw_ vs k) b.toNat = 1 := by omega
        simp (disch := omega) only [bif_dt, bif_df, Option.bind_some, bif_true, chk_in64, decide_eq_false c3, Bool.not_false]
  · unfold D_spec_AreOpposite_s0
    simp (disch := omega) only [bif_df]
theorem iOpp_loop {fu : Nat} (hf : Big fu) {n : Int} {rs vs : List (List Int)} (h : isSch n rs = true) (hv : formV n rs vs = true) {a b : Int} (ha : 0 ≤ a ∧ a ≤ n - 1) (hb : 0 ≤ b ∧ b ≤ n - 1) : loopF (D_impl_AreOpposite_s0 fu vs a b) fu 0 = some (if oppV vs a b then .inl () else .inr (false, 0)) := by
  unfold Big at hf
  obtain ⟨hn, h40⟩ := isSch_of h
  obtain ⟨f1, f2⟩ := formV_of hv
  rw [loop_find (fun k => (k : Int)) (fun k => oppAt (rw_ vs k) a b) vs.length (.inl ()) (fun _ => .inr (false, 0)) (by omega) ?_ ?_ ?_ (s := 0) rfl]
  · unfold oppV
    rw [← all_rw (p := fun v => oppAt v a b)]
    by_cases h : firstNot (fun k => oppAt (rw_ vs k) a b) vs.length < vs.length
    · rw [if_pos h, if_neg (fun h' => all_range.1 h' h)]
    · rw [if_neg h, if_pos (all_range.2 h)]
  all_goals first | (intro k hk hp _) | intro _
  · obtain ⟨v1, v2⟩ := f2 _ (rw_mem hk)
    have x1 := v2 _ (rd_mem (by omega : a.toNat < (rw_ vs k).length))
    have x2 := v2 _ (rd_mem (by omega : b.toNat < (rw_ vs k).length))
    unfold oppAt at hp
    unfold D_impl_AreOpposite_s0
    rw [bif_dt (by omega)]
    simp (disch := omega) only [chk_inR, Int.toNat_natCast, chk_in64]
    simp only [Bool.or_eq_true, Bool.and_eq_true, decide_eq_true_eq] at hp
    by_cases c3 : rd (rw_ vs k) a.toNat + rd (rw_ vs k) b.toNat = 1
    · rw [bif_nt c3, Option.bind_some, bif_false]; rfl
    · have c1 : ¬ 0 ≤ rd (rw_ vs k) a.toNat := by omega
      have c2 : ¬ 0 ≤ rd (rw_ vs k) b.toNat := by omega
      rw [bif_nf c3, bif_df c1, decide_eq_false c2, Option.bind_some, bif_false]; rfl
  · obtain ⟨v1, v2⟩ := f2 _ (rw_mem hk)
    have x1 := v2 _ (rd_mem (by omega : a.toNat < (rw_ vs k).length))
    have x2 := v2 _ (rd_mem (by omega : b.toNat < (rw_ vs k).length))
    unfold oppAt at hp
    unfold D_impl_AreOpposite_s0
    rw [bif_dt (by omega)]
    simp (disch := omega) only [chk_inR, Int.toNat_natCast, chk_in64]
    simp only [Bool.or_eq_false_iff, Bool.and_eq_false_iff, decide_eq_false_iff_not] at hp
    have c3 : ¬ rd (rw_ vs k) a.toNat + rd (rw_ vs k) b.toNat = 1 := by omega
    rw [bif_nf c3]
    by_cases c1 : 0 ≤ rd (rw_ vs k) a.toNat
    · rw [bif_dt c1]; rfl
    · have c2 : 0 ≤ rd (rw_ vs k) b.toNat := by omega
      rw [bif_df c1, decide_eq_true c2]; rfl
  · unfold D_impl_AreOpposite_s0
    simp (disch := omega) only [bif_df]
def oppOf (n : Int) (rs vs : List (List Int)) (a b : Int) : Bool × Int :=
  if isSch n rs then if formV n rs vs && (inB a 0 (n - 1) && inB b 0 (n - 1) && !decide (a = b)) then if areV n rs vs then (oppV vs a b, 0) else (false, 5) else (false, 2) else (false, 1)
theorem opp_s {fu : Nat} (hf : Big fu) (n : Int) {rs vs : List (List Int)} (hA : All 14 rs) (hl : rs.length ≤ 4294967296) (hs : Small vs) (a b : Int) : D_spec_AreOpposite fu n rs vs a b = some (oppOf n rs vs a b) := by
  unfold D_spec_AreOpposite oppOf D_spec_l05Team
  rw [l05Form_D hf n hA hl hs, l01Teams_D hf n hA hl (by simp), Option.bind_some]
  cases h : isSch n rs with
  | false => rfl
  | true =>
    cases hv : formV n rs vs with
    | false => rfl
    | true =>
      by_cases e : a = b
      · rw [decide_eq_true e, Bool.not_true, Bool.and_false, Bool.and_false]; rfl
      · rw [decide_eq_false e, Bool.not_false, Bool.and_true, Bool.true_and]
        simp only [if_true, decide_true, Bool.true_and, Bool.and_false, bif_false, bif_true, Option.bind_some, List.all_cons, List.all_nil, Bool.and_true]
        cases hab : inB a 0 (n - 1) && inB b 0 (n - 1) with
        | false => rfl
        | true =>
          rw [Bool.and_eq_true] at hab
          simp only [if_true, decide_true, bif_true, Option.bind_some, sAre_D hf h hv]
          cases hr : areV n rs vs with
          | false => rfl
          | true =>
            simp only [if_true, decide_true, Bool.not_true, bif_false, Option.bind_some, sOpp_loop hf h hv (inB_of hab.1) (inB_of hab.2)]
            cases oppV vs a b <;> rfl
theorem opp_i {fu : Nat} (hf : Big fu) (n : Int) {rs vs : List (List Int)} (hA : All 14 rs) (hl : rs.length ≤ 4294967296) (hs : Small vs) (a b : Int) : D_impl_AreOpposite fu n rs vs a b = some (oppOf n rs vs a b) := by
  unfold D_impl_AreOpposite oppOf D_impl_venuesCode
  rw [scheduleCode_D hf n hA hl (b := formV n rs vs && (inB a 0 (n - 1) && inB b 0 (n - 1) && !decide (a = b))) ?_, Option.bind_some]
  · cases h : isSch n rs with
    | false => rfl
    | true =>
      cases hv : formV n rs vs && (inB a 0 (n - 1) && inB b 0 (n - 1) && !decide (a = b)) with
      | false => rfl
      | true =>
        simp only [Bool.and_eq_true] at hv
        obtain ⟨hv1, ⟨ha, hb⟩, _⟩ := hv
        simp only [if_true, decide_true, bif_true, Option.bind_some, iAre_D hf h hv1]
        cases hr : areV n rs vs with
        | false => rfl
        | true =>
          simp only [if_true, decide_true, Bool.not_true, bif_false, Option.bind_some, iOpp_loop hf h hv1 (inB_of ha) (inB_of hb)]
          cases oppV vs a b <;> rfl
  · intro h
    obtain ⟨hn, _⟩ := isSch_of h
    unfold D_impl_venuesCode_1 D_impl_AreOpposite_1
    rw [haveForm_D hf n hs, hasTeam_D hn, hasTeam_D hn]
    cases formV n rs vs with
    | false => rfl
    | true =>
      cases inB a 0 (n - 1) with
      | false => rfl
      | true => cases inB b 0 (n - 1) <;> rfl
theorem opp_law {fu : Nat} (hf : Big fu) (n : Int) {rs vs : List (List Int)} (hA : All 14 rs) (hl : rs.length ≤ 9223372036854775807) (hlv : vs.length ≤ 9223372036854775807) (hr : ∀ r ∈ vs, r.length ≤ 9223372036854775807) (a b : Int) : D_laws_FnExactAreOpposite fu n rs vs a b = some true := by
  unfold D_laws_FnExactAreOpposite
  rw [szSchedule_D (by omega) (by omega) hl, Option.bind_some]
  by_cases h : szv 1048576 rs.length < 0
  · rw [bif_dt h]
  · have hz := szv_pos h
    have hl' : rs.length ≤ 4294967296 := by omega
    rw [bif_df h]
    have hv0 : szv 1048576 rs.length = 1048576 - rs.length := by
      unfold szv at h ⊢
      by_cases h9 : (1048576 : Int) - (rs.length : Int) < 0
      · rw [if_pos h9] at h; exact absurd (by decide) h
      · rw [if_neg h9]
    generalize hl0 : szv 1048576 rs.length = l0 at h hv0
    rw [szInt64SS_D hf (by omega) (by omega) hlv hr, Option.bind_some]
    by_cases h2 : (if szv l0 vs.length < 0 then -1 else szR (szv l0 vs.length) vs) < 0
    · rw [bif_dt h2]
    · rw [bif_df h2]
      have hs : Small vs := by
        split at h2
        · exact absurd (by decide) h2
        · rename_i h3
          have h5 := szv_le (l := l0) (n := vs.length) (by omega)
          have h6 : vs.length ≤ 1048576 := by
            unfold szv at h3
            by_cases h9 : l0 - (vs.length : Int) < 0
            · rw [if_pos h9] at h3; exact absurd (by decide) h3
            · omega
          have h4 := szR_small (rs := vs) (by omega) (by omega) h2
          exact ⟨by omega, fun r hr => by have := h4 r hr; omega⟩
      have e1 := opp_s hf n hA hl' hs a b
      have e2 := opp_i hf n hA hl' hs a b
      generalize oppOf n rs vs a b = w at e1 e2
      obtain ⟨b', c⟩ := w
      simp (disch := omega) only [toSchedule_D hf hA hl', toInt64SS_D hf hs, e1, e2, Option.bind_some, eqSchedule_D hf hA hA hl', eqInt64SS_D hf hs, beq_self_eq_true, decide_true, Bool.and_true, Bool.not_true, bif_false, bif_nt, Bool.or_false]
end Go.Proofs.Ytpaaoafgahbokaa

