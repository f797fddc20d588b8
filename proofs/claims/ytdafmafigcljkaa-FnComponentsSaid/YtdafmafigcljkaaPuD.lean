/-
  Lists of different numbers: what program and reference ask of them. Plain Lean, no program, no condition.
-/
import Derived.Test.YtdafmafigcljkaaDSo
import Derived.Test.YtdafmafigcljkaaPuSq
namespace Go.Proofs.Ytdafmafigcljkaa
open Go Am
set_option linter.unusedVariables false
set_option linter.unusedSimpArgs false

def srt (xs : List Int) : List Int := xs.mergeSort fun x y => decide (x ≤ y)
theorem srt_perm (xs : List Int) : (srt xs).Perm xs := List.mergeSort_perm xs _
theorem srt_len (xs : List Int) : (srt xs).length = xs.length := (srt_perm xs).length_eq
theorem srt_mem {xs : List Int} {x : Int} : x ∈ srt xs ↔ x ∈ xs := (srt_perm xs).mem_iff
theorem srt_pw (xs : List Int) : (srt xs).Pairwise (· ≤ ·) := by
  have := List.pairwise_mergeSort (le := fun x y : Int => decide (x ≤ y)) (fun a b c h1 h2 => by simp only [decide_eq_true_eq] at *; omega) (fun a b => by simp only [Bool.or_eq_true, decide_eq_true_eq]; omega) xs
  exact this.imp (fun h => by simpa using h)
theorem srt_le {xs : List Int} {i j : Nat} (hij : i < j) (hj : j < xs.length) : rd (srt xs) i ≤ rd (srt xs) j := by
  have hl := srt_len xs
  have := List.pairwise_iff_getElem.1 (srt_pw xs) i j (by omega) (by omega) hij
  simpa [rd, List.getD_eq_getElem?_getD, List.getElem?_eq_getElem (by omega : i < (srt xs).length), List.getElem?_eq_getElem (by omega : j < (srt xs).length)] using this
theorem rd_get {l : List Int} {k : Nat} (h : k < l.length) : l[k] = rd l k := by simp [rd, List.getD_eq_getElem?_getD, List.getElem?_eq_getElem h]
theorem nodup_rd {l : List Int} : l.Nodup ↔ ∀ i j, i < j → j < l.length → rd l i ≠ rd l j := by
  unfold List.Nodup
  rw [List.pairwise_iff_getElem]
  constructor
  · intro h i j hij hj
    have := h i j (by omega) hj hij
    rwa [rd_get, rd_get] at this
  · intro h i j hi hj hij
    rw [rd_get, rd_get]; exact h i j hij hj
theorem srt_adj (xs : List Int) : (∀ j, 0 < j → j < xs.length → rd (srt xs) j ≠ rd (srt xs) (j - 1)) ↔ (srt xs).Nodup := by
  rw [nodup_rd, srt_len]
  constructor
  · intro h i j hij hj e
    have h1 := h (i + 1) (by omega) (by omega)
    rw [Nat.add_sub_cancel] at h1
    have h2 := srt_le (xs := xs) (Nat.lt_succ_self i) (by omega : i + 1 < xs.length)
    by_cases e2 : i + 1 = j
    · subst e2; exact h1 e.symm
    · have h3 := srt_le (xs := xs) (by omega : i + 1 < j) hj
      have h2' : rd (srt xs) i ≤ rd (srt xs) (i + 1) := h2
      omega
  · intro h j h0 hj e
    exact h (j - 1) j (by omega) hj e.symm
theorem compact_all (s : List Int) : (Lib.compact s).length = s.length ↔ ∀ j, 0 < j → j < s.length → rd s j ≠ rd s (j - 1) := by
  unfold Lib.compact Lib.compactUpTo
  rw [List.length_map]
  have hrl : (List.range s.length).length = s.length := List.length_range
  have hget : ∀ j, j < s.length → s.toArray[j]! = rd s j := fun j hj => by simp [hj, rd, List.getD_eq_getElem?_getD]
  have : ((List.range s.length).filter (Lib.keeps s.toArray)).length = s.length ↔ ∀ j ∈ List.range s.length, Lib.keeps s.toArray j = true := by
    rw [← List.filter_eq_self (p := Lib.keeps s.toArray)]
    constructor
    · intro h
      exact List.filter_sublist.eq_of_length (by rw [h, hrl])
    · intro h; rw [h, hrl]
  rw [this]
  constructor
  · intro h j h0 hj
    have := h j (List.mem_range.2 hj)
    unfold Lib.keeps at this
    rw [decide_eq_true_eq, hget j hj, hget (j - 1) (by omega)] at this
    rcases this with e | e
    · omega
    · exact e
  · intro h j hj
    have hj' := List.mem_range.1 hj
    unfold Lib.keeps
    rw [decide_eq_true_eq]
    by_cases h0 : j = 0
    · exact .inl h0
    · right
      rw [hget j hj', hget (j - 1) (by omega)]
      exact h j (by omega) hj'
theorem compact_srt (xs : List Int) : (Lib.compact (srt xs)).length = (srt xs).length ↔ xs.Nodup := by
  rw [compact_all, srt_len, srt_adj]
  exact (srt_perm xs).nodup_iff
theorem Sorted_D {fu : Nat} {xs : List Int} (hl : xs.length ≤ 4294967296) : D_slices_Sorted_int64 fu xs = some (srt xs) := by
  unfold D_slices_Sorted_int64
  rw [chk_le hl]; first | rfl | (rw [isort_eq]; rfl)
/-- numbers that differ, and none is 0 -/
def difN (xs : List Int) : Bool := decide ((0 : Int) ∉ xs) && decide xs.Nodup
/-- marks that are set one by one, as long as each is new -/
def mk1 (met : List Bool) (x : Int) : Option (List Bool) := if rdb met x.toNat then none else some (met.set x.toNat true)
theorem mk_fold {n : Nat} : ∀ (xs : List Int) (met : List Bool), met.length = n → (∀ x ∈ xs, 0 ≤ x ∧ x < n) → ((xs.foldlM mk1 met).isSome = true ↔ xs.Nodup ∧ ∀ x ∈ xs, rdb met x.toNat = false)
  | [], met, _, _ => by simp
  | x :: xs, met, hl, hx => by
    have h0 := hx x (List.mem_cons_self ..)
    have hxs : ∀ y ∈ xs, 0 ≤ y ∧ y < n := fun y hy => hx y (List.mem_cons_of_mem _ hy)
    rw [List.foldlM_cons]
    unfold mk1
    by_cases h : rdb met x.toNat = true
    · rw [if_pos h]
      constructor
      · intro h1; cases h1
      · intro h1; have := h1.2 x (List.mem_cons_self ..); rw [h] at this; cases this
    · rw [if_neg h]
      show ((xs.foldlM mk1 (met.set x.toNat true)).isSome = true ↔ _)
      rw [mk_fold xs _ (by rw [List.length_set]; exact hl) hxs, List.nodup_cons]
      constructor
      · rintro ⟨h1, h2⟩
        refine ⟨⟨fun hm => ?_, h1⟩, fun y hy => ?_⟩
        · have := h2 x hm
          rw [rdb_set (by omega), if_pos rfl] at this; cases this
        · rcases List.mem_cons.1 hy with rfl | hy
          · simpa using h
          · have := h2 y hy
            have hy0 := hxs y hy
            rw [rdb_set (by omega)] at this
            split at this
            · cases this
            · exact this
      · rintro ⟨⟨h1, h2⟩, h3⟩
        refine ⟨h2, fun y hy => ?_⟩
        have hy0 := hxs y hy
        rw [rdb_set (by omega)]
        by_cases e : x.toNat = y.toNat
        · have : x = y := by omega
          subst this; exact absurd hy h1
        · rw [if_neg e]; exact h3 y (List.mem_cons_of_mem _ hy)
theorem met0 {m : Nat} (hm : 0 < m) (k : Nat) : rdb ((List.replicate m false).set 0 true) k = decide (k = 0) := by
  rw [rdb_set (by rw [List.length_replicate]; exact hm)]
  by_cases h : k = 0
  · subst h; simp
  · rw [if_neg (fun e => h e.symm), decide_eq_false h]
    unfold rdb
    rw [List.getD_eq_getElem?_getD, List.getElem?_replicate]
    split <;> rfl
theorem mk_dif {m : Nat} (hm : 0 < m) {xs : List Int} (hx : ∀ x ∈ xs, 0 ≤ x ∧ x < m) : (xs.foldlM mk1 ((List.replicate m false).set 0 true)).isSome = difN xs := by
  rw [Bool.eq_iff_iff, mk_fold (n := m) xs _ (by simp) hx]
  unfold difN
  rw [Bool.and_eq_true, decide_eq_true_eq, decide_eq_true_eq]
  constructor
  · rintro ⟨h1, h2⟩
    refine ⟨fun h => ?_, h1⟩
    have := h2 0 h
    rw [met0 hm] at this; cases this
  · rintro ⟨h1, h2⟩
    refine ⟨h2, fun x hxx => ?_⟩
    rw [met0 hm, decide_eq_false]
    intro e
    have := hx x hxx
    have : x = 0 := by omega
    subst this; exact h1 hxx
end Go.Proofs.Ytdafmafigcljkaa

