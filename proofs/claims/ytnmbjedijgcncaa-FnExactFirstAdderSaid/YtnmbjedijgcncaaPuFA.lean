/-
  FirstAdder: what program and reference compute, and the law. Plain Lean, no program, no condition.
-/
import Derived.Test.YtnmbjedijgcncaaDB
import Derived.Test.YtnmbjedijgcncaaDD
import Derived.Test.YtnmbjedijgcncaaDI
import Derived.Test.YtnmbjedijgcncaaDJ
import Derived.Test.YtnmbjedijgcncaaDU
import Derived.Test.YtnmbjedijgcncaaPuG
namespace Go.Proofs.Ytnmbjedijgcncaa
open Go Am
set_option linter.unusedVariables false
set_option linter.unusedSimpArgs false

/-- the first of t k, t (k + 1), .. (m of them) that is there -/
def fs {A : Type} (t : Nat → Option A) : Nat → Nat → Option A
  | _, 0 => none
  | k, m + 1 => match t k with
    | some a => some a
    | none => fs t (k + 1) m
theorem loop_fs {S R A : Type} {step : S → Option (Lo S R)} (f : Nat → S) (t : Nat → Option A) (n : Nat) (rT : R) (rF : A → R) (hgo : ∀ k, k < n → t k = none → step (f k) = some (.go (f (k + 1)))) (hF : ∀ k a, k < n → t k = some a → step (f k) = some (.out (rF a))) (hT : step (f n) = some (.out rT)) :
    ∀ (m k fu : Nat), k + m = n → m < fu → loopF step fu (f k) = some (match fs t k m with | some a => rF a | none => rT)
  | 0, k, fu + 1, h, _ => by
    obtain rfl : k = n := by omega
    exact loop_out hT
  | m + 1, k, fu + 1, h, hf => by
    unfold fs
    cases e : t k with
    | none => rw [loop_go (hgo k (by omega) e)]; exact loop_fs f t n rT rF hgo hF hT m (k + 1) fu (by omega) (by omega)
    | some a => exact loop_out (hF k a (by omega) e)
  | 0, _, 0, _, hf => absurd hf (Nat.not_lt_zero _)
  | _ + 1, _, 0, _, hf => absurd hf (Nat.not_lt_zero _)
theorem fs_of {A : Type} {t : Nat → Option A} {p : A → Prop} : ∀ {m k : Nat} {a : A}, (∀ j b, t j = some b → p b) → fs t k m = some a → p a
  | 0, k, a, h, e => by cases e
  | m + 1, k, a, h, e => by
    unfold fs at e
    cases e1 : t k with
    | none => rw [e1] at e; exact fs_of h e
    | some b => rw [e1] at e; cases e; exact h k _ e1
def fAd (m : Int) (ps : List (List Int)) : Nat → List Int → Option (List Int)
  | 0, as => some as
  | k + 1, as => fs (fun j => if isAdd m ps (as ++ [(j : Int) + 1]) then fAd m ps k (as ++ [(j : Int) + 1]) else none) 0 (m - 1).toNat
theorem fAd_len {m : Int} {ps : List (List Int)} : ∀ {k : Nat} {as l : List Int}, fAd m ps k as = some l → l.length = as.length + k
  | 0, as, l, h => by cases h; rfl
  | k + 1, as, l, h => by
    unfold fAd at h
    refine fs_of (p := fun l => l.length = as.length + (k + 1)) (fun j b hb => ?_) h
    split at hb
    · have := fAd_len hb
      rw [List.length_append] at this; simp at this; omega
    · cases hb
theorem ha_app {m : Int} {as : List Int} (ha : ∀ a ∈ as, 1 ≤ a ∧ a ≤ m - 1) {j : Nat} (hj : j < (m - 1).toNat) : ∀ a ∈ as ++ [(j : Int) + 1], 1 ≤ a ∧ a ≤ m - 1 := fun a h => by
  rcases List.mem_append.1 h with h | h
  · exact ha a h
  · rw [List.mem_singleton.1 h]; omega
theorem iFirst {m : Int} (hm : 3 ≤ m ∧ m ≤ 13) {ps : List (List Int)} (h100 : ps.length ≤ 100) (h0 : 0 < ps.length) (hok : ∀ p ∈ ps, okS m p = true) : ∀ (k : Nat) (as : List Int) (fu : Nat), as.length + k = ps.length → (∀ a ∈ as, 1 ≤ a ∧ a ≤ m - 1) → 8589934592 + k < fu →
    D_impl_firstAdder (fu + 1) m ps as = some ((fAd m ps k as).getD []) := by
  intro k
  induction k with
  | zero =>
    intro as fu hl ha hf
    unfold D_impl_firstAdder fAd
    rw [bif_dt (by omega), chk_t (by omega)]; rfl
  | succ k ih =>
    intro as fu hl ha hf
    have hB : Big fu := by unfold Big; omega
    unfold D_impl_firstAdder
    rw [bif_df (by omega)]
    obtain ⟨gu, rfl⟩ : ∃ g, fu = g + 1 := ⟨fu - 1, by omega⟩
    have key := loop_fs (step := D_impl_firstAdder_s0 (D_impl_firstAdder (gu + 1)) (gu + 1) m ps as) (fun k => (k : Int) + 1) (fun j => if isAdd m ps (as ++ [(j : Int) + 1]) then fAd m ps k (as ++ [(j : Int) + 1]) else none) (m - 1).toNat (.inl ()) (fun a => .inr a) ?_ ?_ ?_ (m - 1).toNat 0 (gu + 1) (by omega) (by omega)
    · have e0 : ((0 : Nat) : Int) + 1 = 1 := rfl
      rw [e0] at key
      rw [key]
      conv => rhs; unfold fAd
      cases fs (fun j => if isAdd m ps (as ++ [(j : Int) + 1]) then fAd m ps k (as ++ [(j : Int) + 1]) else none) 0 (m - 1).toNat <;> rfl
    · intro j hj hn
      have hl2 : (as ++ [(j : Int) + 1]).length = as.length + 1 := by simp
      unfold D_impl_firstAdder_s0 D_slices_Clone_Sint64_int64
      rw [bif_dt (by omega)]
      simp only [chk_t (by omega : 0 + as.length ≤ 4294967296), bif_dt, bif_df, Option.bind_some]
      rw [chk_le (by omega), isAdder_D hB hm (by omega) h100 hok (ha_app ha hj), Option.bind_some]
      cases hA : isAdd m ps (as ++ [(j : Int) + 1]) with
      | false => rw [bif_false, chk_in64 (by omega) (by omega)]; rfl
      | true =>
        rw [hA, if_pos rfl] at hn
        rw [bif_true, ih _ gu (by omega) (ha_app ha hj) (by omega), hn, Option.bind_some]
        show (bif !decide (([] : List Int) = []) then _ else _) = _
        rw [bif_nt rfl, chk_in64 (by omega) (by omega)]; rfl
    · intro j l hj hn
      have hl2 : (as ++ [(j : Int) + 1]).length = as.length + 1 := by simp
      unfold D_impl_firstAdder_s0 D_slices_Clone_Sint64_int64
      rw [bif_dt (by omega)]
      simp only [chk_t (by omega : 0 + as.length ≤ 4294967296), bif_dt, bif_df, Option.bind_some]
      rw [chk_le (by omega), isAdder_D hB hm (by omega) h100 hok (ha_app ha hj), Option.bind_some]
      cases hA : isAdd m ps (as ++ [(j : Int) + 1]) with
      | false => rw [hA] at hn; cases hn
      | true =>
        rw [hA, if_pos rfl] at hn
        have hll := fAd_len hn
        have hpos : 0 < l.length := by omega
        have hne : l ≠ [] := List.length_pos_iff.1 hpos
        rw [bif_true, ih _ gu (by omega) (ha_app ha hj) (by omega), hn, Option.bind_some]
        rw [Option.getD_some]
        rw [bif_nf hne, chk_t hpos]
    · unfold D_impl_firstAdder_s0
      rw [bif_df (by omega)]
theorem sFirst {m : Int} (hm : 3 ≤ m ∧ m ≤ 13) {ps : List (List Int)} (h100 : ps.length ≤ 100) (hok : ∀ p ∈ ps, okS m p = true) : ∀ (k : Nat) (as : List Int) (fu : Nat), as.length + k = ps.length → (∀ a ∈ as, 1 ≤ a ∧ a ≤ m - 1) → 8589934592 + k < fu →
    D_spec_l03FindAdder (fu + 1) m ps as = some (match fAd m ps k as with | some l => (l, true) | none => ([], false)) := by
  intro k
  induction k with
  | zero =>
    intro as fu hl ha hf
    unfold D_spec_l03FindAdder fAd
    rw [bif_dt (by omega)]
  | succ k ih =>
    intro as fu hl ha hf
    have hB : Big fu := by unfold Big; omega
    unfold D_spec_l03FindAdder
    rw [bif_df (by omega)]
    obtain ⟨gu, rfl⟩ : ∃ g, fu = g + 1 := ⟨fu - 1, by omega⟩
    have key := loop_fs (step := D_spec_l03FindAdder_s0 (D_spec_l03FindAdder (gu + 1)) (gu + 1) m ps as) (fun k => (k : Int) + 1) (fun j => if isAdd m ps (as ++ [(j : Int) + 1]) then fAd m ps k (as ++ [(j : Int) + 1]) else none) (m - 1).toNat (.inl ()) (fun a => .inr (a, true)) ?_ ?_ ?_ (m - 1).toNat 0 (gu + 1) (by omega) (by omega)
    · have e0 : ((0 : Nat) : Int) + 1 = 1 := rfl
      rw [e0] at key
      rw [key]
      conv => rhs; unfold fAd
      cases fs (fun j => if isAdd m ps (as ++ [(j : Int) + 1]) then fAd m ps k (as ++ [(j : Int) + 1]) else none) 0 (m - 1).toNat <;> rfl
    · intro j hj hn
      have hl2 : (as ++ [(j : Int) + 1]).length = as.length + 1 := by simp
      unfold D_spec_l03FindAdder_s0 D_spec_l01Own
      rw [bif_dt (by omega)]
      simp only [chk_t (by omega : 0 + as.length ≤ 4294967296), Option.bind_some]
      rw [chk_le (by omega), l03Adder_D hB hm (by omega) h100 hok (ha_app ha hj), Option.bind_some]
      cases hA : isAdd m ps (as ++ [(j : Int) + 1]) with
      | false => rw [Bool.not_false, bif_true, chk_in64 (by omega) (by omega)]; rfl
      | true =>
        rw [hA, if_pos rfl] at hn
        rw [Bool.not_true, bif_false, ih _ gu (by omega) (ha_app ha hj) (by omega), hn, Option.bind_some]
        show (bif false then _ else _) = _
        rw [bif_false, chk_in64 (by omega) (by omega)]; rfl
    · intro j l hj hn
      have hl2 : (as ++ [(j : Int) + 1]).length = as.length + 1 := by simp
      unfold D_spec_l03FindAdder_s0 D_spec_l01Own
      rw [bif_dt (by omega)]
      simp only [chk_t (by omega : 0 + as.length ≤ 4294967296), Option.bind_some]
      rw [chk_le (by omega), l03Adder_D hB hm (by omega) h100 hok (ha_app ha hj), Option.bind_some]
      cases hA : isAdd m ps (as ++ [(j : Int) + 1]) with
      | false => rw [hA] at hn; cases hn
      | true =>
        rw [hA, if_pos rfl] at hn
        rw [Bool.not_true, bif_false, ih _ gu (by omega) (ha_app ha hj) (by omega), hn, Option.bind_some]; rfl
    · unfold D_spec_l03FindAdder_s0
      rw [bif_df (by omega)]
def firstOf (m : Int) (ps : List (List Int)) : List Int × Int := if stCode m ps = 0 then (match fAd m ps ps.length [] with | some l => (l, 0) | none => ([], 4)) else ([], stCode m ps)
theorem first_eqs {fu : Nat} (hf : 8589934692 < fu) (m : Int) {ps : List (List Int)} (hl : ps.length ≤ 4294967296) : D_spec_FirstAdder fu m ps = some (firstOf m ps) ∧ D_impl_FirstAdder fu m ps = some (firstOf m ps) := by
  have hB : Big fu := by unfold Big; omega
  unfold D_spec_FirstAdder D_impl_FirstAdder firstOf
  rw [l03Code_D hB m hl, starterCode_D hB m hl, Option.bind_some, Option.bind_some]
  by_cases h : stCode m ps = 0
  · obtain ⟨hn, hok, hl2⟩ := stCode_zero h
    obtain ⟨gu, rfl⟩ : ∃ g, fu = g + 1 := ⟨fu - 1, by omega⟩
    rw [bif_nt h, bif_nt h, if_pos h, sFirst ⟨by omega, by omega⟩ (by omega) hok ps.length [] gu (by simp) (by simp) (by omega), iFirst ⟨by omega, by omega⟩ (by omega) (by omega) hok ps.length [] gu (by simp) (by simp) (by omega), Option.bind_some, Option.bind_some]
    cases e : fAd m ps ps.length [] with
    | none => exact ⟨rfl, rfl⟩
    | some l =>
      have hll := fAd_len e
      have hne : l ≠ [] := List.length_pos_iff.1 (by omega)
      refine ⟨rfl, ?_⟩
      show (bif decide (l = []) then _ else _) = _
      rw [bif_df hne]; rfl
  · rw [bif_nf h, bif_nf h, if_neg h]; exact ⟨rfl, rfl⟩
theorem firstOf_len (m : Int) (ps : List (List Int)) : (firstOf m ps).1.length ≤ 6 := by
  unfold firstOf
  split
  · rename_i h
    obtain ⟨hn, hok, hl2⟩ := stCode_zero h
    cases e : fAd m ps ps.length [] with
    | none => exact Nat.zero_le _
    | some l =>
      have hll := fAd_len e
      show l.length ≤ 6
      simp at hll; omega
  · exact Nat.zero_le _
theorem firstAdd_law {fu : Nat} (hf0 : 8589934692 < fu) (m : Int) {ps : List (List Int)} (hl : ps.length ≤ 9223372036854775807) (hr : ∀ r ∈ ps, r.length ≤ 9223372036854775807) : D_laws_FnExactFirstAdder fu m ps = some true := by
  have hf : Big fu := by unfold Big; omega
  unfold D_laws_FnExactFirstAdder
  rw [szInt64SS_D hf (by omega) (by omega) hl hr, Option.bind_some]
  by_cases h : (if szv 1048576 ps.length < 0 then -1 else szR (szv 1048576 ps.length) ps) < 0
  · rw [bif_dt h]
  · obtain ⟨h1, h2⟩ := sz_small h
    have h3 := sz_tot h
    have hs : Small ps := ⟨by omega, fun r hr => by have := h2 r hr; omega⟩
    rw [bif_df h]
    obtain ⟨e1, e2⟩ := first_eqs hf0 m hs.1
    have w1 := firstOf_len m ps
    generalize firstOf m ps = w at e1 e2 w1
    obtain ⟨ws, c⟩ := w
    have w2 : ws.length ≤ 6 := w1
    have m1 := markInt64SS_D hf (k := 1) hs (by omega) (by omega)
    have m2 := markInt64S_D hf (a := ws) (k := 1) (by omega) (by omega) (by omega)
    have m3 := heldInt64S_D hf (n := ws.length) (k := 1) (by omega) (by omega) (by omega)
    simp (disch := omega) only [toInt64SS_D hf hs, e1, e2, Option.bind_some, eqInt64S_D hf (by omega : ws.length ≤ 4294967296), eqInt64SS_D hf hs, decide_true, Bool.and_true, Bool.not_true, bif_false, m1, m2, m3, bif_df, bif_nt]
end Go.Proofs.Ytnmbjedijgcncaa

