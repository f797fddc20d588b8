/-
  AreOrthogonal: what program and reference compute, and the law. Plain Lean, no program, no condition.
-/
import Derived.Test.YtakfkiahhfdjfaaDG
import Derived.Test.YtakfkiahhfdjfaaDY
import Derived.Test.YtakfkiahhfdjfaaPuG
namespace Go.Proofs.Ytakfkiahhfdjfaa
open Go Am
set_option linter.unusedVariables false
set_option linter.unusedSimpArgs false

theorem modz {m z : Int} (hm : 0 < m) (h0 : -m < z) (h1 : z < m) : (z.tmod m + m).tmod m = if z < 0 then z + m else z := by
  by_cases h : z < 0
  · rw [if_pos h]
    have e : z.tmod m = z := by
      have : z = -(-z) := by omega
      rw [this, Int.neg_tmod, Int.tmod_eq_emod_of_nonneg (by omega), Int.emod_eq_of_lt (by omega) (by omega)]
    rw [e, mod2 hm (by omega) (by omega), if_pos (by omega)]
  · rw [if_neg h]; exact mod_eq hm (by omega) h1
theorem modp {m z : Int} (hm : 0 < m) (h0 : -m < z) (h1 : z < m) : (z + m).tmod m = if z < 0 then z + m else z := by
  rw [mod2 hm (by omega) (by omega)]
  by_cases h : z < 0
  · rw [if_pos h, if_pos (by omega)]
  · rw [if_neg h, if_neg (by omega)]; omega
def hit (m : Int) (p o : List Int) : List Int :=
  if rd o 1 - rd o 0 = rd p 1 - rd p 0 then [(rd o 0 - rd p 0 + m).tmod m] else if rd o 1 - rd o 0 = m - (rd p 1 - rd p 0) then [(rd o 1 - rd p 0 + m).tmod m] else []
theorem hit_len (m : Int) (p o : List Int) : (hit m p o).length ≤ 1 := by
  unfold hit
  split
  · exact Nat.le_refl _
  · split
    · exact Nat.le_refl _
    · exact Nat.zero_le _
theorem flat_len {f : List Int → List Int} {c : Nat} : ∀ (l : List (List Int)), (∀ x ∈ l, (f x).length ≤ c) → (l.flatMap f).length ≤ c * l.length
  | [], _ => Nat.zero_le _
  | x :: l, h => by
    have h1 := flat_len l (fun y hy => h y (List.mem_cons_of_mem _ hy))
    have h2 := h x (List.mem_cons_self ..)
    rw [List.flatMap_cons, List.length_append, List.length_cons, Nat.mul_succ]; omega
theorem flat_take {f : List Int → List Int} {l : List (List Int)} {k : Nat} (h : k < l.length) : (l.take (k + 1)).flatMap f = (l.take k).flatMap f ++ f (rw_ l k) := by
  rw [take_rw h, List.flatMap_append]; simp
theorem foldM_flat (f : List Int → List Int) : ∀ (l : List (List Int)) (s : List Bool), l.foldlM (fun met x => (f x).foldlM mk1 met) s = (l.flatMap f).foldlM mk1 s
  | [], s => rfl
  | x :: l, s => by
    rw [List.foldlM_cons, List.flatMap_cons, List.foldlM_append]
    show Option.bind _ _ = Option.bind _ _
    congr 1; funext t; exact foldM_flat f l t
theorem mk1_len : ∀ (xs : List Int) (met met' : List Bool), xs.foldlM mk1 met = some met' → met'.length = met.length
  | [], met, met', h => by obtain rfl := Option.some.inj h; rfl
  | x :: xs, met, met', h => by
    rw [List.foldlM_cons] at h
    obtain ⟨t, h1, h2⟩ := Option.bind_eq_some_iff.1 h
    rw [mk1_len xs t met' h2]
    unfold mk1 at h1
    split at h1
    · cases h1
    · obtain rfl := Option.some.inj h1; exact List.length_set
def orthL (m : Int) (ps qs : List (List Int)) : List Int := ps.flatMap fun p => qs.flatMap (hit m p)
theorem iOrth_loop {fu : Nat} (hf : Big fu) {m : Int} (hm : 3 ≤ m ∧ m ≤ 13) {ps qs : List (List Int)} (hp : ps.length ≤ 10) (hq : qs.length ≤ 10) (okp : ∀ p ∈ ps, okS m p = true) (okq : ∀ p ∈ qs, okS m p = true) :
    loopF (D_impl_AreOrthogonal_s0 fu m ps qs) fu ([], 0) = some (orthL m ps qs) := by
  unfold Big at hf
  rw [loop_seq (fun k => ((ps.take k).flatMap (fun p => qs.flatMap (hit m p)), (k : Int))) ps.length (orthL m ps qs) (by omega) ?_ ?_ (s := ([], 0)) (by simp)]
  · intro i hi
    obtain ⟨o0, o1, o2, o3⟩ := okS_of (okp _ (rw_mem hi))
    have hacc : ((ps.take i).flatMap (fun p => qs.flatMap (hit m p))).length ≤ 1000 := by
      have h1 := flat_len (f := fun p => qs.flatMap (hit m p)) (c := 10) (ps.take i) (fun p _ => by have := flat_len (f := hit m p) (c := 1) qs (fun o _ => hit_len m p o); omega)
      rw [List.length_take] at h1; omega
    unfold D_impl_AreOrthogonal_s0
    dsimp only
    rw [bif_dt (by omega), flat_take hi]
    generalize (ps.take i).flatMap (fun p => qs.flatMap (hit m p)) = acc at hacc
    have hin : loopF (D_impl_AreOrthogonal_s1 fu m ps qs (i : Int)) fu (acc, 0) = some (acc ++ qs.flatMap (hit m (rw_ ps i))) := by
      rw [loop_seq (fun k => (acc ++ (qs.take k).flatMap (hit m (rw_ ps i)), (k : Int))) qs.length (acc ++ qs.flatMap (hit m (rw_ ps i))) (by omega) ?_ ?_ (s := (acc, 0)) (by simp)]
      · intro k hk
        obtain ⟨q0, q1, q2, q3⟩ := okS_of (okq _ (rw_mem hk))
        have hl1 : (acc ++ (qs.take k).flatMap (hit m (rw_ ps i))).length ≤ 2000 := by
          have h1 := flat_len (f := hit m (rw_ ps i)) (c := 1) (qs.take k) (fun o _ => hit_len m _ o)
          rw [List.length_take] at h1
          rw [List.length_append]; omega
        rw [flat_take hk, ← List.append_assoc]
        generalize acc ++ (qs.take k).flatMap (hit m (rw_ ps i)) = acc2 at hl1
        unfold D_impl_AreOrthogonal_s1 hit
        dsimp only
        rw [bif_dt (by omega)]
        simp (disch := omega) only [chk_inR, chk_in64, Int.toNat_natCast]
        by_cases e1 : rd (rw_ qs k) 1 - rd (rw_ qs k) 0 = rd (rw_ ps i) 1 - rd (rw_ ps i) 0
        · rw [bif_dt e1, if_pos e1, chk_ne (by omega), chk_le (by omega)]; rfl
        · rw [bif_df e1, if_neg e1]
          by_cases e2 : rd (rw_ qs k) 1 - rd (rw_ qs k) 0 = m - (rd (rw_ ps i) 1 - rd (rw_ ps i) 0)
          · rw [bif_dt e2, if_pos e2, chk_ne (by omega), chk_le (by omega)]; rfl
          · rw [bif_df e2, if_neg e2, List.append_nil]; rfl
      · unfold D_impl_AreOrthogonal_s1
        simp (disch := omega) only [bif_df]
        rw [List.take_length]
    simp (disch := omega) only [chk_inR, chk_in64, Int.toNat_natCast, hin, Option.bind_some]; rfl
  · unfold D_impl_AreOrthogonal_s0
    simp (disch := omega) only [bif_df]
    rw [List.take_length]; rfl
theorem sOrth_D {fu : Nat} (hf : Big fu) {m : Int} (hm : 3 ≤ m ∧ m ≤ 13) {ps qs : List (List Int)} (hp : ps.length ≤ 10) (hq : qs.length ≤ 10) (okp : ∀ p ∈ ps, okS m p = true) (okq : ∀ p ∈ qs, okS m p = true)
    (lp : ∀ p ∈ ps, rd p 0 < rd p 1) (lq : ∀ p ∈ qs, rd p 0 < rd p 1) : D_spec_l03Orthogonal fu m ps qs = some (difN (orthL m ps qs)) := by
  unfold Big at hf
  unfold D_spec_l03Orthogonal
  rw [chk_and (by omega) (by omega), chk_inR (by omega) (by omega)]
  have hin : ∀ i, i < ps.length → ∀ met : List Bool, met.length = m.toNat → loopF (D_spec_l03Orthogonal_s1 fu m ps qs (i : Int) (rd (rw_ ps i) 1 - rd (rw_ ps i) 0)) fu (met, 0) = some (((qs.flatMap (hit m (rw_ ps i))).foldlM mk1 met).elim (.inr false) fun t => .inl t) := by
    intro i hi met hmet
    obtain ⟨o0, o1, o2, o3⟩ := okS_of (okp _ (rw_mem hi))
    have ol := lp _ (rw_mem hi)
    rw [← foldM_flat, ← optF_listR]
    refine loop_optF _ (fun _ t => t.length = m.toNat) qs.length (fun t => Sum.inl t) (Sum.inr false) (by omega) hmet ?_ ?_ ?_
    · intro k t t' hk hP hg
      refine ⟨?_, by rw [mk1_len _ _ _ hg]; exact hP⟩
      obtain ⟨q0, q1, q2, q3⟩ := okS_of (okq _ (rw_mem hk))
      have ql := lq _ (rw_mem hk)
      unfold D_spec_l03Orthogonal_s1
      dsimp only
      rw [bif_dt (by omega)]
      simp (disch := omega) only [chk_inR, chk_in64, Int.toNat_natCast]
      rw [l03Mod_D hm, Option.bind_some, mod_eq (by omega) (by omega) (by omega)]
      unfold hit at hg
      by_cases e1 : rd (rw_ qs k) 1 - rd (rw_ qs k) 0 = rd (rw_ ps i) 1 - rd (rw_ ps i) 0
      · rw [if_pos e1, List.foldlM_cons, modp (by omega) (by omega) (by omega)] at hg
        rw [bif_dt e1.symm, l03Mod_D hm, Option.bind_some, modz (by omega) (by omega) (by omega)]
        have hv : 0 ≤ (if rd (rw_ qs k) 0 - rd (rw_ ps i) 0 < 0 then rd (rw_ qs k) 0 - rd (rw_ ps i) 0 + m else rd (rw_ qs k) 0 - rd (rw_ ps i) 0) ∧ (if rd (rw_ qs k) 0 - rd (rw_ ps i) 0 < 0 then rd (rw_ qs k) 0 - rd (rw_ ps i) 0 + m else rd (rw_ qs k) 0 - rd (rw_ ps i) 0) < m := by split <;> omega
        generalize (if rd (rw_ qs k) 0 - rd (rw_ ps i) 0 < 0 then rd (rw_ qs k) 0 - rd (rw_ ps i) 0 + m else rd (rw_ qs k) 0 - rd (rw_ ps i) 0) = v at hv hg
        unfold mk1 at hg
        rw [chk_inR (by omega) (by omega)]
        generalize rdb t v.toNat = b at hg
        cases b with
        | true => cases hg
        | false =>
          obtain rfl := Option.some.inj hg
          rw [bif_false, chk_inR (by omega) (by omega)]
      · rw [if_neg e1] at hg
        rw [bif_df (fun h => e1 h.symm)]
        rw [l03Mod_D hm, Option.bind_some, modz (by omega) (by omega) (by omega), if_pos (by omega)]
        by_cases e2 : rd (rw_ qs k) 1 - rd (rw_ qs k) 0 = m - (rd (rw_ ps i) 1 - rd (rw_ ps i) 0)
        · rw [if_pos e2, List.foldlM_cons, modp (by omega) (by omega) (by omega)] at hg
          rw [bif_dt (by omega), l03Mod_D hm, Option.bind_some, modz (by omega) (by omega) (by omega)]
          have hv : 0 ≤ (if rd (rw_ qs k) 1 - rd (rw_ ps i) 0 < 0 then rd (rw_ qs k) 1 - rd (rw_ ps i) 0 + m else rd (rw_ qs k) 1 - rd (rw_ ps i) 0) ∧ (if rd (rw_ qs k) 1 - rd (rw_ ps i) 0 < 0 then rd (rw_ qs k) 1 - rd (rw_ ps i) 0 + m else rd (rw_ qs k) 1 - rd (rw_ ps i) 0) < m := by split <;> omega
          generalize (if rd (rw_ qs k) 1 - rd (rw_ ps i) 0 < 0 then rd (rw_ qs k) 1 - rd (rw_ ps i) 0 + m else rd (rw_ qs k) 1 - rd (rw_ ps i) 0) = v at hv hg
          unfold mk1 at hg
          rw [chk_inR (by omega) (by omega)]
          generalize rdb t v.toNat = b at hg
          cases b with
          | true => cases hg
          | false =>
            obtain rfl := Option.some.inj hg
            rw [bif_false, chk_inR (by omega) (by omega)]
        · rw [if_neg e2] at hg
          obtain rfl := Option.some.inj hg
          rw [bif_df (by omega)]
    · intro k t hk hP hg
      obtain ⟨q0, q1, q2, q3⟩ := okS_of (okq _ (rw_mem hk))
      have ql := lq _ (rw_mem hk)
      unfold D_spec_l03Orthogonal_s1
      dsimp only
      rw [bif_dt (by omega)]
      simp (disch := omega) only [chk_inR, chk_in64, Int.toNat_natCast]
      rw [l03Mod_D hm, Option.bind_some, mod_eq (by omega) (by omega) (by omega)]
      unfold hit at hg
      by_cases e1 : rd (rw_ qs k) 1 - rd (rw_ qs k) 0 = rd (rw_ ps i) 1 - rd (rw_ ps i) 0
      · rw [if_pos e1, List.foldlM_cons, modp (by omega) (by omega) (by omega)] at hg
        rw [bif_dt e1.symm, l03Mod_D hm, Option.bind_some, modz (by omega) (by omega) (by omega)]
        have hv : 0 ≤ (if rd (rw_ qs k) 0 - rd (rw_ ps i) 0 < 0 then rd (rw_ qs k) 0 - rd (rw_ ps i) 0 + m else rd (rw_ qs k) 0 - rd (rw_ ps i) 0) ∧ (if rd (rw_ qs k) 0 - rd (rw_ ps i) 0 < 0 then rd (rw_ qs k) 0 - rd (rw_ ps i) 0 + m else rd (rw_ qs k) 0 - rd (rw_ ps i) 0) < m := by split <;> omega
        generalize (if rd (rw_ qs k) 0 - rd (rw_ ps i) 0 < 0 then rd (rw_ qs k) 0 - rd (rw_ ps i) 0 + m else rd (rw_ qs k) 0 - rd (rw_ ps i) 0) = v at hv hg
        unfold mk1 at hg
        rw [chk_inR (by omega) (by omega)]
        generalize rdb t v.toNat = b at hg
        cases b with
        | true => rfl
        | false => cases hg
      · rw [if_neg e1] at hg
        rw [bif_df (fun h => e1 h.symm)]
        rw [l03Mod_D hm, Option.bind_some, modz (by omega) (by omega) (by omega), if_pos (by omega)]
        by_cases e2 : rd (rw_ qs k) 1 - rd (rw_ qs k) 0 = m - (rd (rw_ ps i) 1 - rd (rw_ ps i) 0)
        · rw [if_pos e2, List.foldlM_cons, modp (by omega) (by omega) (by omega)] at hg
          rw [bif_dt (by omega), l03Mod_D hm, Option.bind_some, modz (by omega) (by omega) (by omega)]
          have hv : 0 ≤ (if rd (rw_ qs k) 1 - rd (rw_ ps i) 0 < 0 then rd (rw_ qs k) 1 - rd (rw_ ps i) 0 + m else rd (rw_ qs k) 1 - rd (rw_ ps i) 0) ∧ (if rd (rw_ qs k) 1 - rd (rw_ ps i) 0 < 0 then rd (rw_ qs k) 1 - rd (rw_ ps i) 0 + m else rd (rw_ qs k) 1 - rd (rw_ ps i) 0) < m := by split <;> omega
          generalize (if rd (rw_ qs k) 1 - rd (rw_ ps i) 0 < 0 then rd (rw_ qs k) 1 - rd (rw_ ps i) 0 + m else rd (rw_ qs k) 1 - rd (rw_ ps i) 0) = v at hv hg
          unfold mk1 at hg
          rw [chk_inR (by omega) (by omega)]
          generalize rdb t v.toNat = b at hg
          cases b with
          | true => rfl
          | false => cases hg
        · rw [if_neg e2] at hg; cases hg
    · intro t hP
      unfold D_spec_l03Orthogonal_s1
      simp (disch := omega) only [bif_df]
  rw [loop_optF (fun k met => (qs.flatMap (hit m (rw_ ps k))).foldlM mk1 met) (fun _ met => met.length = m.toNat) ps.length (fun _ => .inl ()) (.inr false) (by omega) (by simp) ?_ ?_ ?_, optF_listR (fun met p => (qs.flatMap (hit m p)).foldlM mk1 met), foldM_flat (fun p => qs.flatMap (hit m p)), ← mk_dif (m := m.toNat) (by omega) (xs := orthL m ps qs) ?_]
  · unfold orthL
    cases (ps.flatMap fun p => qs.flatMap (hit m p)).foldlM mk1 ((List.replicate m.toNat false).set 0 true) <;> rfl
  · intro x hx
    obtain ⟨p, hpm, hx⟩ := List.mem_flatMap.1 hx
    obtain ⟨o, hom, hx⟩ := List.mem_flatMap.1 hx
    obtain ⟨o0, o1, o2, o3⟩ := okS_of (okp _ hpm)
    obtain ⟨q0, q1, q2, q3⟩ := okS_of (okq _ hom)
    unfold hit at hx
    split at hx
    · rw [List.mem_singleton.1 hx, modp (by omega) (by omega) (by omega)]; split <;> omega
    · split at hx
      · rw [List.mem_singleton.1 hx, modp (by omega) (by omega) (by omega)]; split <;> omega
      · exact absurd hx List.not_mem_nil
  · intro k met met' hk hP hg
    obtain ⟨o0, o1, o2, o3⟩ := okS_of (okp _ (rw_mem hk))
    have ol := lp _ (rw_mem hk)
    refine ⟨?_, by rw [mk1_len _ _ _ hg]; exact hP⟩
    unfold D_spec_l03Orthogonal_s0
    dsimp only
    rw [bif_dt (by omega)]
    simp (disch := omega) only [chk_inR, chk_in64, Int.toNat_natCast]
    rw [l03Mod_D hm, Option.bind_some, mod_eq (by omega) (by omega) (by omega), hin k hk met hP, hg]; rfl
  · intro k met hk hP hg
    obtain ⟨o0, o1, o2, o3⟩ := okS_of (okp _ (rw_mem hk))
    have ol := lp _ (rw_mem hk)
    unfold D_spec_l03Orthogonal_s0
    dsimp only
    rw [bif_dt (by omega)]
    simp (disch := omega) only [chk_inR, chk_in64, Int.toNat_natCast]
    rw [l03Mod_D hm, Option.bind_some, mod_eq (by omega) (by omega) (by omega), hin k hk met hP, hg]; rfl
  · intro met hP
    unfold D_spec_l03Orthogonal_s0
    simp (disch := omega) only [bif_df]
theorem szR_le : ∀ {rs : List (List Int)} {l : Int}, 0 ≤ l → szR l rs ≤ l
  | [], l, _ => Int.le_refl _
  | r :: rs, l, h0 => by
    unfold szR
    split
    · omega
    · rename_i h
      have h1 := szv_le (n := r.length) h0
      have h2 := szR_le (rs := rs) (l := szv l r.length) (by omega)
      omega
def orthOf (m : Int) (ps qs : List (List Int)) : Bool × Int :=
  if isMod m && (ps.all (okS m) && qs.all (okS m)) then if isSt m ps && isSt m qs then (difN (orthL m ps qs), 0) else (false, 1) else (false, 2)
theorem orth_i {fu : Nat} (hf : Big fu) (m : Int) {ps qs : List (List Int)} (hl : ps.length ≤ 4294967296) (hl2 : qs.length ≤ 4294967296) : D_impl_AreOrthogonal fu m ps qs = some (orthOf m ps qs) := by
  unfold D_impl_AreOrthogonal orthOf
  rw [starterCodeL_D hf m (pss := [ps, qs]) (by simp) (by simp; exact ⟨hl, hl2⟩) (b := true) (fun _ _ => rfl), Option.bind_some]
  simp only [List.all_cons, List.all_nil, Bool.and_true]
  cases hm : isMod m with
  | false => rfl
  | true =>
    cases hok : ps.all (okS m) with
    | false => rfl
    | true =>
      cases hok2 : qs.all (okS m) with
      | false => rfl
      | true =>
        cases hs : isSt m ps with
        | false => rfl
        | true =>
          cases hs2 : isSt m qs with
          | false => rfl
          | true =>
            obtain ⟨hn, hok', hl3⟩ := stCode_zero (stLen hm hok hs)
            obtain ⟨_, hok2', hl4⟩ := stCode_zero (stLen hm hok2 hs2)
            have hlen : (orthL m ps qs).length ≤ 4294967296 := by
              have h1 := flat_len (f := fun p => qs.flatMap (hit m p)) (c := 10) ps (fun p _ => by have := flat_len (f := hit m p) (c := 1) qs (fun o _ => hit_len m p o); omega)
              unfold orthL; omega
            simp only [Bool.and_self, if_true, decide_true, Bool.not_true, bif_false, iOrth_loop hf ⟨hn.1, hn.2.1⟩ (by omega) (by omega) hok' hok2', areDifferent_D hf hlen, Option.bind_some]
theorem orth_s {fu : Nat} (hf : Big fu) (m : Int) {ps qs : List (List Int)} (hl : ps.length ≤ 4294967296) (hl2 : qs.length ≤ 4294967296) : D_spec_AreOrthogonal fu m ps qs = some (orthOf m ps qs) := by
  unfold D_spec_AreOrthogonal orthOf
  rw [l03Modulus_D, Option.bind_some]
  cases hm : isMod m with
  | false => rfl
  | true =>
    have hn := isMod_of hm
    rw [l03Lists_D hf ⟨hn.1, hn.2.1⟩ hl, l03Lists_D hf ⟨hn.1, hn.2.1⟩ hl2]
    cases hok : ps.all (okS m) with
    | false => rfl
    | true =>
      cases hok2 : qs.all (okS m) with
      | false => rfl
      | true =>
        rw [l03Is_D hf hn hl (List.all_eq_true.1 hok), l03Is_D hf hn hl2 (List.all_eq_true.1 hok2)]
        cases hs : isSt m ps with
        | false => rfl
        | true =>
          cases hs2 : isSt m qs with
          | false => rfl
          | true =>
            obtain ⟨_, hok', hl3⟩ := stCode_zero (stLen hm hok hs)
            obtain ⟨_, hok2', hl4⟩ := stCode_zero (stLen hm hok2 hs2)
            simp only [Bool.and_self, if_true, Bool.not_true, bif_false, Option.bind_some, sOrth_D hf ⟨hn.1, hn.2.1⟩ (by omega : ps.length ≤ 10) (by omega : qs.length ≤ 10) hok' hok2' (isSt_ord hs hok') (isSt_ord hs2 hok2')]
theorem orth_law {fu : Nat} (hf : Big fu) (m : Int) {ps qs : List (List Int)} (hl : ps.length ≤ 9223372036854775807) (hr : ∀ r ∈ ps, r.length ≤ 9223372036854775807) (hl2 : qs.length ≤ 9223372036854775807) (hr2 : ∀ r ∈ qs, r.length ≤ 9223372036854775807) : D_laws_FnExactAreOrthogonal fu m ps qs = some true := by
  unfold D_laws_FnExactAreOrthogonal
  rw [szInt64SS_D hf (by omega) (by omega) hl hr, Option.bind_some]
  by_cases h : (if szv 1048576 ps.length < 0 then -1 else szR (szv 1048576 ps.length) ps) < 0
  · rw [bif_dt h]
  · obtain ⟨h1, h2⟩ := sz_small h
    have hs : Small ps := ⟨by omega, fun r hr => by have := h2 r hr; omega⟩
    rw [bif_df h]
    have hle : (if szv 1048576 ps.length < 0 then -1 else szR (szv 1048576 ps.length) ps) ≤ 1048576 := by
      split
      · decide
      · rename_i h3
        have h4 := szv_le (l := 1048576) (n := ps.length) (by omega)
        have h5 := szR_le (rs := ps) (l := szv 1048576 ps.length) (by omega)
        omega
    generalize (if szv 1048576 ps.length < 0 then -1 else szR (szv 1048576 ps.length) ps) = l0 at h hle
    rw [szInt64SS_D hf (by omega) hle hl2 hr2, Option.bind_some]
    by_cases h2' : (if szv l0 qs.length < 0 then -1 else szR (szv l0 qs.length) qs) < 0
    · rw [bif_dt h2']
    · rw [bif_df h2']
      have hs2 : Small qs := by
        split at h2'
        · exact absurd (by decide) h2'
        · rename_i h3
          have h5 := szv_le (l := l0) (n := qs.length) (by omega)
          have h6 : qs.length ≤ 1048576 := by
            unfold szv at h3
            by_cases h9 : l0 - (qs.length : Int) < 0
            · rw [if_pos h9] at h3; exact absurd (by decide) h3
            · omega
          have h4 := szR_small (rs := qs) (by omega) (by omega) h2'
          exact ⟨by omega, fun r hr => by have := h4 r hr; omega⟩
      have e1 := orth_s hf m hs.1 hs2.1
      have e2 := orth_i hf m hs.1 hs2.1
      generalize orthOf m ps qs = w at e1 e2
      obtain ⟨b, c⟩ := w
      simp (disch := omega) only [toInt64SS_D hf hs, toInt64SS_D hf hs2, e1, e2, Option.bind_some, eqInt64SS_D hf hs, eqInt64SS_D hf hs2, beq_self_eq_true, decide_true, Bool.not_true, bif_false, Bool.or_false]
end Go.Proofs.Ytakfkiahhfdjfaa

