/-
  The chain of two rounds: it comes back before it has met more teams than there are. Plain Lean, no program. No condition.
-/
import Derived.Test.YtgageobfalmhpaaW2
namespace Go.Proofs.Ytgageobfalmhpaa
open Go Go.RowKit Am
set_option linter.unusedVariables false
set_option linter.unusedSimpArgs false
def chn (r q : List Int) (a : Int) : Nat → Int
  | 0 => a
  | k + 1 => rd (rw_ [r, q] (k % 2)) (chn r q a k).toNat
def stp (r q : List Int) (a : Int) (k : Nat) : Bool := decide (chn r q a (k + 1) = a) || decide (chn r q a (k + 1) = chn r q a k)
def chl (r q : List Int) (a : Int) (k : Nat) : List Int := (List.range (k + 1)).map (chn r q a)
def chK (r q : List Int) (a : Int) : Nat := ((List.range 15).find? (stp r q a)).getD 0
def chOk (n : Int) (r q : List Int) (a : Int) : Bool := isRnd n r && isRnd n q && inB a 0 (n - 1)
theorem chl_length (r q : List Int) (a : Int) (k : Nat) : (chl r q a k).length = k + 1 := by simp [chl]
theorem chl_last (r q : List Int) (a : Int) (k : Nat) : rd (chl r q a k) k = chn r q a k := by
  simp [rd, chl, List.getD_eq_getElem?_getD]
theorem chl_succ (r q : List Int) (a : Int) (k : Nat) : chl r q a (k + 1) = chl r q a k ++ [chn r q a (k + 1)] := by
  unfold chl; rw [List.range_succ, List.map_append]; rfl
theorem rnd_pt {n : Int} {r : List Int} (h : isRnd n r = true) {x : Int} (h0 : 0 ≤ x) (h1 : x < n) : 0 ≤ rd r x.toNat ∧ rd r x.toNat < n ∧ rd r (rd r x.toNat).toNat = x := by
  unfold isRnd at h
  rw [Bool.and_eq_true, List.all_eq_true] at h
  have hb := inB_of h.1
  have h2 := h.2 x.toNat (List.mem_range.2 (by omega))
  unfold rndAt at h2
  rw [if_pos (by omega), Bool.and_eq_true, decide_eq_true_eq] at h2
  have h3 := inB_of h2.1
  exact ⟨h3.1, by omega, by rw [h2.2]; omega⟩
theorem rw2 (r q : List Int) (k : Nat) : rw_ [r, q] (k % 2) = if k % 2 = 0 then r else q := by
  rcases Nat.mod_two_eq_zero_or_one k with h | h <;> rw [h] <;> rfl
theorem two_pt {n : Int} {r q : List Int} (hr : isRnd n r = true) (hq : isRnd n q = true) (k : Nat) {x : Int} (h0 : 0 ≤ x) (h1 : x < n) :
    0 ≤ rd (rw_ [r, q] (k % 2)) x.toNat ∧ rd (rw_ [r, q] (k % 2)) x.toNat < n ∧ rd (rw_ [r, q] (k % 2)) (rd (rw_ [r, q] (k % 2)) x.toNat).toNat = x := by
  rw [rw2]; split
  · exact rnd_pt hr h0 h1
  · exact rnd_pt hq h0 h1
theorem chn_in {n : Int} {r q : List Int} {a : Int} (h : chOk n r q a = true) : ∀ k, 0 ≤ chn r q a k ∧ chn r q a k < n := by
  unfold chOk at h
  simp only [Bool.and_eq_true] at h
  have ha := inB_of h.2
  intro k
  induction k with
  | zero => exact ⟨ha.1, by have := ha.2; show a < n; omega⟩
  | succ k ih => have := two_pt h.1.1 h.1.2 k ih.1 ih.2; exact ⟨this.1, this.2.1⟩
theorem pigeon : ∀ (n : Nat) (f : Nat → Nat), (∀ i, i ≤ n → f i < n) → ∃ i j, i < j ∧ j ≤ n ∧ f i = f j := by
  intro n
  induction n with
  | zero => intro f h; exact absurd (h 0 (Nat.le_refl _)) (Nat.not_lt_zero _)
  | succ n ih =>
    intro f h
    by_cases hv : ∃ i, i ≤ n ∧ f i = f (n + 1)
    · obtain ⟨i, hi, e⟩ := hv; exact ⟨i, n + 1, by omega, Nat.le_refl _, e⟩
    · have hne : ∀ i, i ≤ n → f i ≠ f (n + 1) := fun i hi e => hv ⟨i, hi, e⟩
      obtain ⟨i, j, h1, h2, e⟩ := ih (fun i => if f (n + 1) < f i then f i - 1 else f i) (fun i hi => by
        have a1 := h i (by omega); have a2 := hne i hi; have a3 := h (n + 1) (Nat.le_refl _)
        show (if f (n + 1) < f i then f i - 1 else f i) < n
        split <;> omega)
      refine ⟨i, j, h1, by omega, ?_⟩
      have a1 := hne i (by omega); have a2 := hne j h2
      have e' : (if f (n + 1) < f i then f i - 1 else f i) = (if f (n + 1) < f j then f j - 1 else f j) := e
      split at e' <;> split at e' <;> omega
theorem chn_diff {n : Int} {r q : List Int} {a : Int} (h : chOk n r q a = true) {k : Nat} (hs : ∀ j, j < k → stp r q a j = false) : ∀ j, j ≤ k → ∀ i, i < j → chn r q a i ≠ chn r q a j := by
  have hin := chn_in h
  unfold chOk at h
  simp only [Bool.and_eq_true] at h
  intro j
  induction j using Nat.strongRecOn with
  | _ j ih =>
    intro hj i hi e
    obtain ⟨j, rfl⟩ : ∃ m, j = m + 1 := ⟨j - 1, by omega⟩
    have hst := hs j (by omega)
    unfold stp at hst
    rw [Bool.or_eq_false_iff, decide_eq_false_iff_not, decide_eq_false_iff_not] at hst
    have back := (two_pt h.1.1 h.1.2 j (hin j).1 (hin j).2).2.2
    have back' : rd (rw_ [r, q] (j % 2)) (chn r q a (j + 1)).toNat = chn r q a j := back
    rcases Nat.eq_zero_or_pos i with rfl | hi0
    · exact hst.1 e.symm
    · by_cases hij : i = j
      · subst hij; exact hst.2 e.symm
      · by_cases hp : i % 2 = j % 2
        · have e1 : chn r q a (i + 1) = chn r q a j := by
            show rd (rw_ [r, q] (i % 2)) (chn r q a i).toNat = _
            rw [hp, e]; exact back'
          rcases Nat.lt_or_ge (i + 1) j with hlt | hge
          · exact ih j (by omega) (by omega) (i + 1) hlt e1
          · have : i + 1 = j := by omega
            omega
        · have hp' : (i - 1) % 2 = j % 2 := by omega
          have bi := (two_pt h.1.1 h.1.2 (i - 1) (hin (i - 1)).1 (hin (i - 1)).2).2.2
          have e0 : chn r q a i = rd (rw_ [r, q] ((i - 1) % 2)) (chn r q a (i - 1)).toNat := by
            have : i = i - 1 + 1 := by omega
            conv => lhs; rw [this]
            rfl
          rw [← e0] at bi
          rw [hp', e, back'] at bi
          exact ih j (by omega) (by omega) (i - 1) (by omega) bi.symm
theorem chK_spec {n : Int} {r q : List Int} {a : Int} (h : chOk n r q a = true) : stp r q a (chK r q a) = true ∧ chK r q a ≤ 14 ∧ ∀ j, j < chK r q a → stp r q a j = false := by
  have hn : n ≤ 14 := by
    unfold chOk isRnd at h
    simp only [Bool.and_eq_true] at h
    exact (inB_of h.1.1.1).2
  cases hf : (List.range 15).find? (stp r q a) with
  | none =>
    exfalso
    have hs : ∀ j, j < 15 → stp r q a j = false := fun j hj => by
      have := List.find?_eq_none.1 hf j (List.mem_range.2 hj); simpa using this
    have hd := chn_diff h hs
    have hin := chn_in h
    obtain ⟨i, j, h1, h2, e⟩ := pigeon 14 (fun i => (chn r q a i).toNat) (fun i _ => by have := hin i; omega)
    exact hd j (by omega) i h1 (by have := hin i; have := hin j; omega)
  | some k =>
    have e : chK r q a = k := by unfold chK; rw [hf]; rfl
    rw [e]
    obtain ⟨h1, l1, l2, h2, h3⟩ := List.find?_eq_some_iff_append.1 hf
    have hk : k ∈ List.range 15 := List.mem_of_find?_eq_some hf
    have hlen : l1.length = k := by
      have h4 : (List.range 15)[l1.length]? = some k := by rw [h2, List.getElem?_append_right (Nat.le_refl _)]; simp
      rw [List.getElem?_eq_some_iff] at h4
      obtain ⟨h5, h6⟩ := h4
      rw [List.getElem_range] at h6; exact h6
    refine ⟨h1, by have := List.mem_range.1 hk; omega, fun j hj => ?_⟩
    have h7 : j ∈ l1 := by
      have h8 : (List.range 15)[j]? = some j := List.getElem?_range (by have := List.mem_range.1 hk; omega)
      rw [h2, List.getElem?_append_left (by omega)] at h8
      exact List.mem_of_getElem? h8
    simpa using h3 j h7
theorem chK_at {n : Int} {r q : List Int} {a : Int} (h : chOk n r q a = true) {k : Nat} (hk : k ≤ chK r q a) (hs : stp r q a k = true) : chK r q a = k := by
  obtain ⟨_, _, h3⟩ := chK_spec h
  rcases Nat.lt_or_ge k (chK r q a) with hlt | hge
  · rw [h3 k hlt] at hs; cases hs
  · omega
theorem chK_lt {n : Int} {r q : List Int} {a : Int} (h : chOk n r q a = true) {k : Nat} (hk : k ≤ chK r q a) (hs : stp r q a k = false) : k < chK r q a := by
  obtain ⟨h1, _, _⟩ := chK_spec h
  rcases Nat.lt_or_ge k (chK r q a) with hlt | hge
  · exact hlt
  · have : k = chK r q a := by omega
    rw [← this, hs] at h1; cases h1
def rcode (n : Int) (rs : List (List Int)) : Int := if inB n 2 14 && rs.all (isRnd n) then 0 else 2
def chC (r q : List Int) (a : Int) : Nat := if chK r q a = 0 then 1 else capU + 1
def mkl (k : Int) (n : Nat) : List Int := (List.range n).map fun (j : Nat) => k + (j : Int)
/-- the first i marked -/
def mks (xs : List Int) (k : Int) (i : Nat) : List Int := (List.range xs.length).map fun j => if j < i then k + (j : Int) else rd xs j
theorem mks_length (xs : List Int) (k : Int) (i : Nat) : (mks xs k i).length = xs.length := by simp [mks]
theorem mks_zero (xs : List Int) (k : Int) : mks xs k 0 = xs := by
  apply ints_ext (by simp [mks])
  intro j hj
  rw [mks_length] at hj
  simp [mks, rd, List.getD_eq_getElem?_getD, hj]
theorem mks_set (xs : List Int) (k : Int) (i : Nat) (h : i < xs.length) : (mks xs k i).set i (k + (i : Int)) = mks xs k (i + 1) := by
  apply List.ext_getElem?
  intro j
  rw [List.getElem?_set]
  by_cases hj : i = j
  · subst hj; simp [mks, h]
  · rw [if_neg hj]
    by_cases h3 : j < xs.length
    · have : (j < i) = (j < i + 1) := propext (by omega)
      simp [mks, h3, this]
    · simp [mks, h3]
theorem mks_full (xs : List Int) (k : Int) {i : Nat} (h : xs.length ≤ i) : mks xs k i = mkl k xs.length := by
  unfold mks mkl
  apply List.map_congr_left
  intro j hj
  rw [if_pos (by have := List.mem_range.1 hj; omega)]
theorem mkl_length (k : Int) (n : Nat) : (mkl k n).length = n := by simp [mkl]
theorem mkl_rd (k : Int) (n : Nat) {j : Nat} (h : j < n) : rd (mkl k n) j = k + (j : Int) := by simp [mkl, rd, List.getD_eq_getElem?_getD, h]
end Go.Proofs.Ytgageobfalmhpaa
