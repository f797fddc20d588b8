/-
  What parsing a schedule computes: by the reference, by the program, the same. Plain Lean, no program, no condition.
-/
import Derived.Test.YtfiilgnebmidbaaDoorPuPg
import Derived.Test.YtfiilgnebmidbaaDoorPuTs
namespace Go.Proofs.YtfiilgnebmidbaaDoor
open Go Am
set_option linter.unusedVariables false
set_option linter.unusedSimpArgs false

theorem rnd_at {n : Int} {r : List Int} (h : isRnd n r = true) {j : Nat} (hj : j < 14) : ((j : Int) < n → 0 ≤ rd r j ∧ rd r j ≤ n - 1 ∧ rd r (rd r j).toNat = j) ∧ (¬ (j : Int) < n → rd r j = 0) := by
  unfold isRnd at h
  rw [Bool.and_eq_true, List.all_eq_true] at h
  have := h.2 j (List.mem_range.2 hj)
  unfold rndAt at this
  refine ⟨fun hn => ?_, fun hn => ?_⟩
  · rw [if_pos hn, Bool.and_eq_true, decide_eq_true_eq] at this
    have h1 := inB_of this.1
    exact ⟨h1.1, h1.2, this.2⟩
  · rw [if_neg hn, decide_eq_true_eq] at this
    exact this
theorem rnd_of {n : Int} {r : List Int} (hn : 2 ≤ n ∧ n ≤ 14) (h : ∀ j : Nat, j < 14 → ((j : Int) < n → 0 ≤ rd r j ∧ rd r j ≤ n - 1 ∧ rd r (rd r j).toNat = j) ∧ (¬ (j : Int) < n → rd r j = 0)) : isRnd n r = true := by
  unfold isRnd
  rw [inB_t hn, Bool.true_and, List.all_eq_true]
  intro j hj
  have := h j (List.mem_range.1 hj)
  unfold rndAt
  by_cases hjn : (j : Int) < n
  · rw [if_pos hjn, inB_t ⟨(this.1 hjn).1, (this.1 hjn).2.1⟩, decide_eq_true (this.1 hjn).2.2]; rfl
  · rw [if_neg hjn, decide_eq_true (this.2 hjn)]
theorem rd_meet1 {r p : List Int} {j : Nat} (hr : r.length = 14) (h0 : 0 ≤ rd p 0 ∧ rd p 0 < 14) (h1 : 0 ≤ rd p 1 ∧ rd p 1 < 14) : rd (meet1 r p) j = if rd p 1 = (j : Int) then rd p 0 else if rd p 0 = (j : Int) then rd p 1 else rd r j := by
  unfold meet1
  rw [rd_set (by rw [List.length_set]; omega), rd_set (by omega)]
  by_cases e1 : rd p 1 = (j : Int)
  · rw [if_pos (by omega), if_pos e1]
  · rw [if_neg (by omega), if_neg e1]
    by_cases e0 : rd p 0 = (j : Int)
    · rw [if_pos (by omega), if_pos e0]
    · rw [if_neg (by omega), if_neg e0]
theorem RR_rnd {n : Int} (hn : 2 ≤ n ∧ n ≤ 14) {ps : List (List Int)} (hok : ∀ p ∈ ps, okP n p = true) : ∀ k, k ≤ ps.length → (∀ j, j < k → fresh n ps j = true) → isRnd n (RR n ps k) = true
  | 0, _, _ => by
    refine rnd_of hn fun j hj => ?_
    have e : ∀ i : Nat, i < 14 → rd (RR n ps 0) i = if (i : Int) < n then (i : Int) else 0 := fun i hi => by
      show rd (frI n.toNat) i = _
      rw [frI_rd hi]
      by_cases h : (i : Int) < n
      · rw [if_pos (by omega), if_pos h]
      · rw [if_neg (by omega), if_neg h]
    refine ⟨fun h => ?_, fun h => ?_⟩
    · have h1 := e j hj
      rw [if_pos h] at h1
      rw [h1]
      exact ⟨by omega, by omega, by rw [Int.toNat_natCast]; exact h1⟩
    · rw [e j hj, if_neg h]
  | k + 1, hk, hfr => by
    have hkl : k < ps.length := by omega
    have ih := RR_rnd hn hok k (by omega) (fun j hj => hfr j (by omega))
    obtain ⟨_, o1, o2, o3⟩ := okP_of (hok _ (rw_mem hkl))
    have hf := hfr k (by omega)
    rw [fresh_R hn hok hkl (fun j hj => hfr j (by omega)), Bool.and_eq_true, decide_eq_true_eq, decide_eq_true_eq] at hf
    obtain ⟨f0, f1⟩ := hf
    have hrl := RR_len n ps k
    have hm := fun j => rd_meet1 (r := RR n ps k) (p := rw_ ps k) (j := j) hrl ⟨by omega, by omega⟩ ⟨by omega, by omega⟩
    rw [RR_succ hkl]
    generalize hR : RR n ps k = R at ih f0 f1 hm ⊢
    generalize hp : rw_ ps k = p at o1 o2 o3 f0 f1 hm ⊢
    refine rnd_of hn fun j hj => ?_
    have hj' := rnd_at ih hj
    refine ⟨fun h => ?_, fun h => ?_⟩
    · obtain ⟨g1, g2, g3⟩ := hj'.1 h
      rw [hm j]
      by_cases e1 : rd p 1 = (j : Int)
      · rw [if_pos e1, hm]
        refine ⟨by omega, by omega, ?_⟩
        rw [if_neg (by omega), if_pos (by omega)]; exact e1
      · rw [if_neg e1]
        by_cases e0 : rd p 0 = (j : Int)
        · rw [if_pos e0, hm]
          refine ⟨by omega, by omega, ?_⟩
          rw [if_pos (by omega)]; exact e0
        · rw [if_neg e0, hm]
          refine ⟨g1, g2, ?_⟩
          have n1 : rd p 1 ≠ rd R j := fun e => by
            rw [e] at f1; rw [g3] at f1; omega
          have n0 : rd p 0 ≠ rd R j := fun e => by
            rw [e] at f0; rw [g3] at f0; omega
          rw [if_neg (by omega), if_neg (by omega)]; exact g3
    · rw [hm j, if_neg (by omega), if_neg (by omega)]; exact hj'.2 h
theorem roundOf_rnd {n : Int} {ps : List (List Int)} (h : (roundOf n ps).2 = 0) : isRnd n (roundOf n ps).1 = true := by
  unfold roundOf at h ⊢
  split at h
  · rename_i h1
    rw [Bool.and_eq_true, Bool.and_eq_true, decide_eq_true_eq, List.all_eq_true] at h1
    rw [if_pos (by rw [Bool.and_eq_true, Bool.and_eq_true, decide_eq_true_eq, List.all_eq_true]; exact h1)]
    split at h
    · rename_i h2
      rw [if_pos h2]
      rw [List.all_eq_true] at h2
      exact RR_rnd (inB_of h1.1.1) h1.2 _ (Nat.le_refl _) (fun j hj => h2 j (List.mem_range.2 hj))
    · cases h
  · cases h
/-- the round whose pairs ahead of m are written -/
def Tm (n : Int) (r : List Int) (m j : Nat) : Int := if (j : Int) < n then (if ((j : Int) < m ∧ (j : Int) < rd r j) ∨ (rd r j < m ∧ rd r j < j) then rd r j else j) else 0
theorem fresh_app {n : Int} {ps : List (List Int)} {q : List Int} {k : Nat} (h : k < ps.length) : fresh n (ps ++ [q]) k = fresh n ps k := by
  unfold fresh MM
  rw [List.take_append_of_le_length (by omega)]
  have e : rw_ (ps ++ [q]) k = rw_ ps k := by simp [rw_, List.getD_eq_getElem?_getD, List.getElem?_append_left h]
  rw [e]
theorem prs_back {n : Int} {r : List Int} (h : isRnd n r = true) : ∀ m : Nat, (m : Int) ≤ n → (∀ p ∈ prs r m, okP n p = true) ∧ (∀ k, k < (prs r m).length → fresh n (prs r m) k = true) ∧ ∀ j, j < 14 → rd (RR n (prs r m) (prs r m).length) j = Tm n r m j
  | 0, _ => by
    have e : prs r 0 = [] := rfl
    have hn := isRnd_n14 h
    rw [e]
    refine ⟨fun p hp => absurd hp List.not_mem_nil, fun k hk => absurd hk (Nat.not_lt_zero _), fun j hj => ?_⟩
    show rd (frI n.toNat) j = _
    rw [frI_rd hj]
    unfold Tm
    by_cases hjn : (j : Int) < n
    · have := (rnd_at h hj).1 hjn
      rw [if_pos (by omega), if_pos hjn, if_neg (by omega)]
    · rw [if_neg (by omega), if_neg hjn]
  | m + 1, hm => by
    have hn := isRnd_n14 h
    obtain ⟨i1, i2, i3⟩ := prs_back h m (by omega)
    obtain ⟨g1, g2, g3⟩ := (rnd_at h (j := m) (by omega)).1 (by omega)
    rw [prs_succ]
    by_cases hlt : (m : Int) < rd r m
    · rw [if_pos hlt]
      have hqa : rd [(m : Int), rd r m] 0 = m := rfl
      have hqb : rd [(m : Int), rd r m] 1 = rd r m := rfl
      generalize hq : [(m : Int), rd r m] = q at hqa hqb
      have hok : okP n q = true := by
        unfold okP
        rw [decide_eq_true (show q.length = 2 by rw [← hq]; rfl), hqa, hqb, inB_t ⟨by omega, by omega⟩, inB_t ⟨by omega, by omega⟩, decide_eq_false (show ¬ (m : Int) = rd r m by omega)]; rfl
      have hoks : ∀ p ∈ prs r m ++ [q], okP n p = true := fun p hp => by
        rcases List.mem_append.1 hp with hp | hp
        · exact i1 p hp
        · rw [List.mem_singleton.1 hp]; exact hok
      have hL : (prs r m ++ [q]).length = (prs r m).length + 1 := by simp
      have hrw : rw_ (prs r m ++ [q]) (prs r m).length = q := by simp [rw_, List.getD_eq_getElem?_getD]
      have hRR : RR n (prs r m ++ [q]) (prs r m).length = RR n (prs r m) (prs r m).length := by
        unfold RR
        rw [List.take_append_of_le_length (Nat.le_refl _)]
      have hold : ∀ k, k < (prs r m).length → fresh n (prs r m ++ [q]) k = true := fun k hk => by rw [fresh_app hk]; exact i2 k hk
      have hT : ∀ j : Nat, j < 14 → (j : Int) = m ∨ (j : Int) = rd r m → Tm n r m j = j := fun j hj hc => by
        unfold Tm
        rw [if_pos (by omega)]
        rcases hc with hc | hc
        · have e : j = m := by omega
          subst e
          rw [if_neg (by omega)]
        · have e : rd r j = m := by rw [show j = (rd r m).toNat by omega]; exact g3
          rw [e, if_neg (by omega)]
      refine ⟨hoks, fun k hk => ?_, fun j hj => ?_⟩
      · rw [hL] at hk
        by_cases hk' : k < (prs r m).length
        · exact hold k hk'
        · obtain rfl : k = (prs r m).length := by omega
          rw [fresh_R hn hoks (by omega) hold, hrw, hRR, i3 _ (by rw [hqa]; omega), i3 _ (by rw [hqb]; omega), hT _ (by rw [hqa]; omega) (.inl (by rw [hqa]; omega)), hT _ (by rw [hqb]; omega) (.inr (by rw [hqb]; omega)), decide_eq_true (by rw [hqa]; omega), decide_eq_true (by rw [hqb]; omega)]; rfl
      · rw [hL, RR_succ (by omega), hrw, hRR, rd_meet1 (RR_len _ _ _) (by rw [hqa]; omega) (by rw [hqb]; omega), hqa, hqb, i3 j hj]
        by_cases e1 : rd r m = (j : Int)
        · rw [if_pos e1]
          have e : rd r j = m := by rw [show j = (rd r m).toNat by omega]; exact g3
          unfold Tm
          rw [if_pos (by omega), e, if_pos (by omega)]
        · rw [if_neg e1]
          by_cases e0 : (m : Int) = (j : Int)
          · have e : m = j := by omega
            subst e
            rw [if_pos rfl]
            unfold Tm
            rw [if_pos (by omega), if_pos (by omega)]
          · rw [if_neg e0]
            unfold Tm
            by_cases hjn : (j : Int) < n
            · obtain ⟨k1, k2, k3⟩ := (rnd_at h hj).1 hjn
              have e : rd r j ≠ m := fun e => by
                rw [e, Int.toNat_natCast] at k3; omega
              rw [if_pos hjn, if_pos hjn]
              by_cases hc : ((j : Int) < m ∧ (j : Int) < rd r j) ∨ (rd r j < m ∧ rd r j < j)
              · rw [if_pos hc, if_pos (by omega)]
              · rw [if_neg hc, if_neg (by omega)]
            · rw [if_neg hjn, if_neg hjn]
    · rw [if_neg hlt]
      refine ⟨i1, i2, fun j hj => ?_⟩
      rw [i3 j hj]
      unfold Tm
      by_cases hjn : (j : Int) < n
      · obtain ⟨k1, k2, k3⟩ := (rnd_at h hj).1 hjn
        rw [if_pos hjn, if_pos hjn]
        have e : rd r j = m → (j : Int) = rd r m := fun e => by
          rw [e, Int.toNat_natCast] at k3; omega
        have e' : j = m → rd r j = rd r m := fun e => by rw [e]
        by_cases hc : ((j : Int) < m ∧ (j : Int) < rd r j) ∨ (rd r j < m ∧ rd r j < j)
        · rw [if_pos hc, if_pos (by omega)]
        · rw [if_neg hc, if_neg (by
            intro hc'
            apply hc
            rcases hc' with ⟨a1, a2⟩ | ⟨a1, a2⟩
            · by_cases ej : j = m
              · have := e' ej; omega
              · exact .inl ⟨by omega, a2⟩
            · by_cases ej : rd r j = m
              · have := e ej; omega
              · exact .inr ⟨by omega, a2⟩)]
      · rw [if_neg hjn, if_neg hjn]
theorem roundOf_prs {n : Int} {r : List Int} (h : isRnd n r = true) (hl : r.length = 14) : roundOf n (prs r n.toNat) = (r, 0) := by
  have hn := isRnd_n14 h
  obtain ⟨h1, h2, h3⟩ := prs_back h n.toNat (by omega)
  have hpl := prs_len r n.toNat
  unfold roundOf
  rw [if_pos (by rw [inB_t hn, decide_eq_true (by omega), Bool.true_and, Bool.true_and, List.all_eq_true]; exact h1), if_pos (by rw [List.all_eq_true]; exact fun k hk => h2 k (List.mem_range.1 hk))]
  congr 1
  refine ints_ext (by rw [RR_len, hl]) fun j hj => ?_
  rw [RR_len] at hj
  rw [h3 j hj]
  unfold Tm
  by_cases hjn : (j : Int) < n
  · have := (rnd_at h hj).1 hjn
    rw [if_pos hjn]
    by_cases hc : ((j : Int) < ((n.toNat : Nat) : Int) ∧ (j : Int) < rd r j) ∨ (rd r j < ((n.toNat : Nat) : Int) ∧ rd r j < j)
    · rw [if_pos hc]
    · rw [if_neg hc]; omega
  · rw [if_neg hjn]; exact ((rnd_at h hj).2 hjn).symm
end Go.Proofs.YtfiilgnebmidbaaDoor

