/-
  IsStrong, IsSkew, StrongAdder: what program and reference compute, and the laws. Plain Lean, no program, no condition.
-/
import Derived.Test.YtakfkiahhfdjfaaDD
import Derived.Test.YtakfkiahhfdjfaaDF
import Derived.Test.YtakfkiahhfdjfaaPuJ
import Derived.Test.YtakfkiahhfdjfaaPuD
import Derived.Test.YtakfkiahhfdjfaaDX
namespace Go.Proofs.Ytakfkiahhfdjfaa
open Go Am
set_option linter.unusedVariables false
set_option linter.unusedSimpArgs false

def sms (m : Int) (ps : List (List Int)) : List Int := ps.map (sum1 m)
theorem sms_len (m : Int) (ps : List (List Int)) : (sms m ps).length = ps.length := List.length_map ..
theorem sms_in {m : Int} {ps : List (List Int)} (h : stCode m ps = 0) : ∀ x ∈ sms m ps, 0 ≤ x ∧ x < m := by
  obtain ⟨hn, hok, hl⟩ := stCode_zero h
  intro x hx
  obtain ⟨p, hp, rfl⟩ := List.mem_map.1 hx
  obtain ⟨o0, o1, o2, o3⟩ := okS_of (hok _ hp)
  unfold sum1
  rw [mod2 (by omega) (by omega) (by omega)]
  split <;> omega
theorem iSums_D {fu : Nat} (hf : Big fu) {m : Int} {ps : List (List Int)} (h : stCode m ps = 0) : D_impl_sums fu m ps = some (sms m ps) := by
  obtain ⟨hn, hok, hl2⟩ := stCode_zero h
  unfold Big at hf
  unfold D_impl_sums sms
  rw [loop_seq (fun k => ((ps.take k).map (sum1 m), (k : Int))) ps.length (ps.map (sum1 m)) (by omega) ?_ ?_ (s := ([], 0)) (by simp)]
  · rfl
  · intro k hk
    obtain ⟨o0, o1, o2, o3⟩ := okS_of (hok _ (rw_mem hk))
    have hm : ((ps.take k).map (sum1 m)).length = k := by simp; omega
    unfold D_impl_sums_s0
    simp (disch := omega) only [chk_inR, chk_in64, chk_ne, chk_le, bif_dt, Int.toNat_natCast]
    rw [← map_take_rw' hk]; rfl
  · unfold D_impl_sums_s0
    simp (disch := omega) only [bif_df]
    rw [List.take_length]
theorem sSums_D {fu : Nat} (hf : Big fu) {m : Int} {ps : List (List Int)} (h : stCode m ps = 0) : D_spec_l03Sums fu m ps = some (sms m ps) := by
  unfold D_spec_l03Sums
  rw [sums_loop hf h]; rfl
theorem iStrong_D {fu : Nat} (hf : Big fu) {m : Int} {ps : List (List Int)} (h : stCode m ps = 0) : D_impl_isStrong fu m ps = some (difN (sms m ps)) := by
  obtain ⟨hn, hok, hl2⟩ := stCode_zero h
  have := sms_len m ps
  unfold D_impl_isStrong
  rw [iSums_D hf h, Option.bind_some, areDifferent_D hf (by omega)]; rfl
theorem sStrong_D {fu : Nat} (hf : Big fu) {m : Int} {ps : List (List Int)} (h : stCode m ps = 0) : D_spec_l03Strong fu m ps = some (difN (sms m ps)) := by
  obtain ⟨hn, hok, hl2⟩ := stCode_zero h
  have hsl := sms_len m ps
  have hin := sms_in h
  have hf' := hf
  unfold Big at hf
  unfold D_spec_l03Strong
  rw [chk_and (by omega) (by omega), sSums_D hf' h, Option.bind_some, chk_inR (by omega) (by omega)]
  rw [loop_optF (fun k met => mk1 met (rd (sms m ps) k)) (fun _ met => met.length = m.toNat) (sms m ps).length (fun _ => .inl ()) (.inr false) (by omega) (by simp) ?_ ?_ ?_, optF_list, ← mk_dif (m := m.toNat) (by omega) (xs := sms m ps) (fun x hx => by have := hin x hx; omega)]
  · cases (sms m ps).foldlM mk1 ((List.replicate m.toNat false).set 0 true) <;> rfl
  · intro k met met' hk hP hg
    have h1 := hin _ (rd_mem hk)
    unfold mk1 at hg
    split at hg
    · cases hg
    · rename_i h2
      obtain rfl := Option.some.inj hg
      refine ⟨?_, by rw [List.length_set]; exact hP⟩
      rw [Bool.not_eq_true] at h2
      unfold D_spec_l03Strong_s0
      simp (disch := omega) only [bif_dt, chk_inR, chk_in64, Int.toNat_natCast, h2, bif_false]
  · intro k met hk hP hg
    have h1 := hin _ (rd_mem hk)
    unfold mk1 at hg
    split at hg
    · rename_i h2
      unfold D_spec_l03Strong_s0
      simp (disch := omega) only [bif_dt, chk_inR, chk_in64, Int.toNat_natCast, h2, bif_true]
    · cases hg
  · intro met hP
    unfold D_spec_l03Strong_s0
    simp (disch := omega) only [bif_df]
def strongOf (m : Int) (ps : List (List Int)) : Bool × Int := if stCode m ps = 0 then (difN (sms m ps), 0) else (false, stCode m ps)
theorem strong_eqs {fu : Nat} (hf : Big fu) (m : Int) {ps : List (List Int)} (hl : ps.length ≤ 4294967296) : D_spec_IsStrong fu m ps = some (strongOf m ps) ∧ D_impl_IsStrong fu m ps = some (strongOf m ps) := by
  unfold D_spec_IsStrong D_impl_IsStrong strongOf
  rw [l03Code_D hf m hl, starterCode_D hf m hl, Option.bind_some, Option.bind_some]
  by_cases h : stCode m ps = 0
  · rw [bif_nt h, bif_nt h, if_pos h, sStrong_D hf h, iStrong_D hf h]; exact ⟨rfl, rfl⟩
  · rw [bif_nf h, bif_nf h, if_neg h]; exact ⟨rfl, rfl⟩
def skew1 (m : Int) (xs : List Int) : Bool := (List.range xs.length).all fun i => (List.range (i + 1)).all fun k => !decide ((rd xs i + rd xs k).tmod m = 0)
def skew2 (m : Int) (xs : List Int) : Bool := !(xs.any fun x => decide (m - x ∈ xs))
theorem skew_eq {m : Int} (hm : 0 < m) {xs : List Int} (hx : ∀ x ∈ xs, 0 ≤ x ∧ x < m) (hd : difN xs = true) : skew1 m xs = skew2 m xs := by
  unfold difN at hd
  rw [Bool.and_eq_true, decide_eq_true_eq, decide_eq_true_eq] at hd
  have hpos : ∀ x ∈ xs, 0 < x ∧ x < m := fun x h => by
    have := hx x h
    have : x ≠ 0 := fun e => hd.1 (e ▸ h)
    omega
  rw [Bool.eq_iff_iff]
  unfold skew1 skew2
  simp only [List.all_eq_true, List.mem_range, Bool.not_eq_true', decide_eq_false_iff_not, List.any_eq_false, decide_eq_true_eq]
  constructor
  · intro h x hx1 hx2
    obtain ⟨i, hi, rfl⟩ := rd_of hx1
    obtain ⟨k, hk, e⟩ := rd_of hx2
    have hs : rd xs i + rd xs k = m := by omega
    by_cases hik : k ≤ i
    · exact h i hi k (by omega) (by rw [hs, Int.tmod_self])
    · exact h k hk i (by omega) (by rw [Int.add_comm, hs, Int.tmod_self])
  · intro h i hi k hk e
    have h1 := hpos _ (rd_mem hi)
    have h2 := hpos _ (rd_mem (by omega : k < xs.length))
    rw [mod2 hm (by omega) (by omega)] at e
    split at e
    · omega
    · exact h _ (rd_mem hi) (by rw [show m - rd xs i = rd xs k by omega]; exact rd_mem (by omega))
theorem sSkew_loop {fu : Nat} (hf : Big fu) {m : Int} (hm : 0 < m ∧ m ≤ 13) {xs : List Int} (hl : xs.length ≤ 100) (hx : ∀ x ∈ xs, 0 ≤ x ∧ x < m) : loopF (D_spec_l03Skew_s0 fu m xs) fu 0 = some (if skew1 m xs then .inl () else .inr false) := by
  unfold Big at hf
  have hin : ∀ i, i < xs.length → loopF (D_spec_l03Skew_s1 fu m xs (i : Int)) fu 0 = some (if (List.range (i + 1)).all (fun k => !decide ((rd xs i + rd xs k).tmod m = 0)) then .inl () else .inr false) := by
    intro i hi
    have h1 := hx _ (rd_mem hi)
    rw [loop_all (fun k => (k : Int)) (fun k => !decide ((rd xs i + rd xs k).tmod m = 0)) (i + 1) (by omega) ?_ ?_ ?_ (s := 0) rfl]
    all_goals first | (intro k hk hp _) | intro _
    · have h2 := hx _ (rd_mem (by omega : k < xs.length))
      have hp' : ¬ (rd xs i + rd xs k).tmod m = 0 := by simpa using hp
      unfold D_spec_l03Skew_s1
      rw [bif_dt (by omega), chk_inR (by omega) (by omega), chk_inR (by omega) (by omega), Int.toNat_natCast, Int.toNat_natCast, chk_in64 (by omega) (by omega), chk_ne (by omega), bif_df hp', chk_in64 (by omega) (by omega)]; rfl
    · have h2 := hx _ (rd_mem (by omega : k < xs.length))
      have hp' : (rd xs i + rd xs k).tmod m = 0 := by simpa using hp
      unfold D_spec_l03Skew_s1
      rw [bif_dt (by omega), chk_inR (by omega) (by omega), chk_inR (by omega) (by omega), Int.toNat_natCast, Int.toNat_natCast, chk_in64 (by omega) (by omega), chk_ne (by omega), bif_dt hp']
    · unfold D_spec_l03Skew_s1
      simp (disch := omega) only [bif_df]
  unfold skew1
  rw [loop_all (fun k => (k : Int)) (fun i => (List.range (i + 1)).all fun k => !decide ((rd xs i + rd xs k).tmod m = 0)) xs.length (by omega) ?_ ?_ ?_ (s := 0) rfl]
  all_goals first | (intro k hk hp _) | intro _
  all_goals unfold D_spec_l03Skew_s0
  · rw [bif_dt (by omega), hin k hk, if_pos hp, Option.bind_some]
    simp (disch := omega) only [chk_in64]; rfl
  · rw [bif_dt (by omega), hin k hk, hp]; rfl
  · simp (disch := omega) only [bif_df]
theorem sSkew_D {fu : Nat} (hf : Big fu) {m : Int} {ps : List (List Int)} (h : stCode m ps = 0) : D_spec_l03Skew fu m ps = some (skew1 m (sms m ps) && difN (sms m ps)) := by
  obtain ⟨hn, hok, hl2⟩ := stCode_zero h
  have hsl := sms_len m ps
  unfold D_spec_l03Skew
  rw [sSums_D hf h, Option.bind_some, sSkew_loop hf ⟨by omega, by omega⟩ (by omega) (sms_in h)]
  cases skew1 m (sms m ps) with
  | false => rfl
  | true => simp only [if_true, Option.bind_some, sStrong_D hf h, Bool.true_and]
theorem iSkew_D {fu : Nat} (hf : Big fu) {m : Int} {ps : List (List Int)} (h : stCode m ps = 0) : D_impl_isSkew fu m ps = some (difN (sms m ps) && skew2 m (sms m ps)) := by
  obtain ⟨hn, hok, hl2⟩ := stCode_zero h
  have hsl := sms_len m ps
  have hin := sms_in h
  unfold D_impl_isSkew
  rw [iSums_D hf h, Option.bind_some, iStrong_D hf h, Option.bind_some]
  cases difN (sms m ps) with
  | false => rfl
  | true =>
    rw [bif_true, ContainsFuncI_D hf (by omega) (p := fun x => decide (m - x ∈ sms m ps))]
    · rfl
    · intro x hx
      have := hin x hx
      unfold D_impl_isSkew_1
      rw [chk_in64 (by omega) (by omega), Contains_D hf (by omega)]; rfl
def skewOf (m : Int) (ps : List (List Int)) : Bool × Int := if stCode m ps = 0 then (difN (sms m ps) && skew2 m (sms m ps), 0) else (false, stCode m ps)
theorem skew_eqs {fu : Nat} (hf : Big fu) (m : Int) {ps : List (List Int)} (hl : ps.length ≤ 4294967296) : D_spec_IsSkew fu m ps = some (skewOf m ps) ∧ D_impl_IsSkew fu m ps = some (skewOf m ps) := by
  unfold D_spec_IsSkew D_impl_IsSkew skewOf
  rw [l03Code_D hf m hl, starterCode_D hf m hl, Option.bind_some, Option.bind_some]
  by_cases h : stCode m ps = 0
  · obtain ⟨hn, _, _⟩ := stCode_zero h
    rw [bif_nt h, bif_nt h, if_pos h, sSkew_D hf h, iSkew_D hf h]
    refine ⟨?_, rfl⟩
    show some (skew1 m (sms m ps) && difN (sms m ps), (0 : Int)) = some (difN (sms m ps) && skew2 m (sms m ps), (0 : Int))
    cases hd : difN (sms m ps) with
    | false => rw [Bool.and_false, Bool.false_and]
    | true => rw [Bool.and_true, Bool.true_and, skew_eq (by omega) (sms_in h) hd]
  · rw [bif_nf h, bif_nf h, if_neg h]; exact ⟨rfl, rfl⟩
def sAdd (m : Int) (ps : List (List Int)) : List Int := (sms m ps).map fun x => m - x
def strongAdd (m : Int) (ps : List (List Int)) : List Int × Int := if stCode m ps = 0 then if difN (sms m ps) then (sAdd m ps, 0) else ([], 5) else ([], stCode m ps)
theorem take_rd' {l : List Int} {k : Nat} (h : k < l.length) : l.take (k + 1) = l.take k ++ [rd l k] := by
  rw [List.take_add_one, List.getElem?_eq_getElem h]; simp [rd, List.getD_eq_getElem?_getD, List.getElem?_eq_getElem h]
theorem sAdd_loop {fu : Nat} (hf : Big fu) {m : Int} (hm : 0 < m ∧ m ≤ 13) {xs : List Int} (hl : xs.length ≤ 100) (hx : ∀ x ∈ xs, 0 ≤ x ∧ x < m) : loopF (D_spec_StrongAdder_s0 fu m xs) fu ([], 0) = some (xs.map fun x => m - x) := by
  unfold Big at hf
  rw [loop_seq (fun k => ((xs.take k).map (fun x => m - x), (k : Int))) xs.length (xs.map fun x => m - x) (by omega) ?_ ?_ (s := ([], 0)) (by simp)]
  · intro k hk
    have h1 := hx _ (rd_mem hk)
    have hm : ((xs.take k).map (fun x => m - x)).length = k := by simp; omega
    unfold D_spec_StrongAdder_s0
    simp (disch := omega) only [chk_inR, chk_in64, chk_le, bif_dt, Int.toNat_natCast]
    rw [take_rd' hk, List.map_append]; rfl
  · unfold D_spec_StrongAdder_s0
    simp (disch := omega) only [bif_df]
    rw [List.take_length]
theorem iAdd_loop {fu : Nat} (hf : Big fu) {m : Int} (hm : 0 < m ∧ m ≤ 13) {xs : List Int} (hl : xs.length ≤ 100) (hx : ∀ x ∈ xs, 0 ≤ x ∧ x < m) : loopF (D_impl_StrongAdder_s0 fu m xs) fu ([], 0) = some (xs.map fun x => m - x) := sAdd_loop hf hm hl hx
theorem strongAdd_eqs {fu : Nat} (hf : Big fu) (m : Int) {ps : List (List Int)} (hl : ps.length ≤ 4294967296) : D_spec_StrongAdder fu m ps = some (strongAdd m ps) ∧ D_impl_StrongAdder fu m ps = some (strongAdd m ps) := by
  unfold D_spec_StrongAdder D_impl_StrongAdder strongAdd
  rw [l03Code_D hf m hl, starterCode_D hf m hl, Option.bind_some, Option.bind_some]
  by_cases h : stCode m ps = 0
  · obtain ⟨hn, _, hl2⟩ := stCode_zero h
    have hsl := sms_len m ps
    rw [bif_nt h, bif_dt h, if_pos h, sStrong_D hf h, iStrong_D hf h]
    cases difN (sms m ps) with
    | false => exact ⟨rfl, rfl⟩
    | true =>
      have e1 := sAdd_loop hf ⟨by omega, by omega⟩ (by omega) (sms_in h)
      have e2 := iAdd_loop hf ⟨by omega, by omega⟩ (by omega) (sms_in h)
      simp only [Option.bind_some, Bool.not_true, bif_false, h, decide_true, sSums_D hf h, iSums_D hf h, e1, e2, if_true]
      exact ⟨rfl, rfl⟩
  · rw [bif_nf h, bif_df h, if_neg h, Option.bind_some, bif_false, Option.bind_some, bif_nf h]; exact ⟨rfl, rfl⟩
theorem strongAdd_len (m : Int) (ps : List (List Int)) : (strongAdd m ps).1.length ≤ 6 := by
  unfold strongAdd
  split
  · rename_i h
    obtain ⟨hn, hok, hl2⟩ := stCode_zero h
    split
    · show (sAdd m ps).length ≤ 6
      unfold sAdd; rw [List.length_map, sms_len]; omega
    · exact Nat.zero_le _
  · exact Nat.zero_le _
theorem strong_law {fu : Nat} (hf : Big fu) (m : Int) {ps : List (List Int)} (hl : ps.length ≤ 9223372036854775807) (hr : ∀ r ∈ ps, r.length ≤ 9223372036854775807) : D_laws_FnExactIsStrong fu m ps = some true := by
  unfold D_laws_FnExactIsStrong
  rw [szInt64SS_D hf (by omega) (by omega) hl hr, Option.bind_some]
  by_cases h : (if szv 1048576 ps.length < 0 then -1 else szR (szv 1048576 ps.length) ps) < 0
  · rw [bif_dt h]
  · obtain ⟨h1, h2⟩ := sz_small h
    have hs : Small ps := ⟨by omega, fun r hr => by have := h2 r hr; omega⟩
    rw [bif_df h]
    obtain ⟨e1, e2⟩ := strong_eqs hf m hs.1
    generalize strongOf m ps = w at e1 e2
    obtain ⟨b, c⟩ := w
    simp (disch := omega) only [toInt64SS_D hf hs, e1, e2, Option.bind_some, eqInt64SS_D hf hs, beq_self_eq_true, decide_true, Bool.not_true, bif_false, Bool.or_false]
theorem skew_law {fu : Nat} (hf : Big fu) (m : Int) {ps : List (List Int)} (hl : ps.length ≤ 9223372036854775807) (hr : ∀ r ∈ ps, r.length ≤ 9223372036854775807) : D_laws_FnExactIsSkew fu m ps = some true := by
  unfold D_laws_FnExactIsSkew
  rw [szInt64SS_D hf (by omega) (by omega) hl hr, Option.bind_some]
  by_cases h : (if szv 1048576 ps.length < 0 then -1 else szR (szv 1048576 ps.length) ps) < 0
  · rw [bif_dt h]
  · obtain ⟨h1, h2⟩ := sz_small h
    have hs : Small ps := ⟨by omega, fun r hr => by have := h2 r hr; omega⟩
    rw [bif_df h]
    obtain ⟨e1, e2⟩ := skew_eqs hf m hs.1
    generalize skewOf m ps = w at e1 e2
    obtain ⟨b, c⟩ := w
    simp (disch := omega) only [toInt64SS_D hf hs, e1, e2, Option.bind_some, eqInt64SS_D hf hs, beq_self_eq_true, decide_true, Bool.not_true, bif_false, Bool.or_false]
theorem strongAdd_law {fu : Nat} (hf : Big fu) (m : Int) {ps : List (List Int)} (hl : ps.length ≤ 9223372036854775807) (hr : ∀ r ∈ ps, r.length ≤ 9223372036854775807) : D_laws_FnExactStrongAdder fu m ps = some true := by
  unfold D_laws_FnExactStrongAdder
  rw [szInt64SS_D hf (by omega) (by omega) hl hr, Option.bind_some]
  by_cases h : (if szv 1048576 ps.length < 0 then -1 else szR (szv 1048576 ps.length) ps) < 0
  · rw [bif_dt h]
  · obtain ⟨h1, h2⟩ := sz_small h
    have h3 := sz_tot h
    have hs : Small ps := ⟨by omega, fun r hr => by have := h2 r hr; omega⟩
    rw [bif_df h]
    obtain ⟨e1, e2⟩ := strongAdd_eqs hf m hs.1
    have w1 := strongAdd_len m ps
    generalize strongAdd m ps = w at e1 e2 w1
    obtain ⟨ws, c⟩ := w
    have w2 : ws.length ≤ 6 := w1
    have m1 := markInt64SS_D hf (k := 1) hs (by omega) (by omega)
    have m2 := markInt64S_D hf (a := ws) (k := 1) (by omega) (by omega) (by omega)
    have m3 := heldInt64S_D hf (n := ws.length) (k := 1) (by omega) (by omega) (by omega)
    simp (disch := omega) only [toInt64SS_D hf hs, e1, e2, Option.bind_some, eqInt64S_D hf (by omega : ws.length ≤ 4294967296), eqInt64SS_D hf hs, decide_true, Bool.and_true, Bool.not_true, bif_false, m1, m2, m3, bif_df, bif_nt]
end Go.Proofs.Ytakfkiahhfdjfaa

