/-
  The laws' helpers, continued: slices of numbers, marks that are written and read back. Plain Lean, no program, no condition.
-/
import Derived.Test.YtdafmafigcljkaaPuL
namespace Go.Proofs.Ytdafmafigcljkaa
open Go Am
set_option linter.unusedVariables false
set_option linter.unusedSimpArgs false

/-- rows of numbers that a machine can hold -/
def Small (rs : List (List Int)) : Prop := rs.length ≤ 4294967296 ∧ ∀ r ∈ rs, r.length ≤ 4294967296
/-- what is left behind some rows, -1 if too little -/
def szR (l : Int) : List (List Int) → Int
  | [] => l
  | r :: rs => if szv l r.length < 0 then -1 else szR (szv l r.length) rs
theorem szv_le {l : Int} {n : Nat} (h0 : 0 ≤ l) : szv l n ≤ l := by unfold szv; split <;> omega
theorem drop_rw {rs : List (List Int)} {k : Nat} (h : k < rs.length) : rs.drop k = rw_ rs k :: rs.drop (k + 1) := by
  rw [List.drop_eq_getElem_cons h]; congr 1
  simp [rw_, List.getD_eq_getElem?_getD, List.getElem?_eq_getElem h]
theorem szR_small : ∀ {rs : List (List Int)} {l : Int}, 0 ≤ l → l ≤ 1048576 → ¬ szR l rs < 0 → ∀ r ∈ rs, r.length ≤ 1048576
  | [], l, _, _, _ => fun r h => by cases h
  | q :: rs, l, h0, h1, h => by
    rw [szR] at h
    split at h
    · omega
    · rename_i hz
      have e : szv l q.length = l - q.length := by unfold szv at *; split at hz <;> rename_i h2; omega; rw [if_neg h2]
      intro r hr
      rcases List.mem_cons.1 hr with rfl | hr
      · omega
      · exact szR_small (by omega) (by omega) h r hr
theorem sz_small {rs : List (List Int)} (h : ¬ (if szv 1048576 rs.length < 0 then -1 else szR (szv 1048576 rs.length) rs) < 0) : rs.length ≤ 1048576 ∧ ∀ r ∈ rs, r.length ≤ 1048576 := by
  split at h
  · omega
  · rename_i hz
    have e := szv_pos hz
    have e2 : szv 1048576 rs.length = 1048576 - rs.length := by unfold szv; rw [if_neg (by omega)]
    exact ⟨e, szR_small (by omega) (by omega) h⟩
/-! marks -/
def mkl (k : Int) (n : Nat) : List Int := (List.range n).map fun (j : Nat) => k + (j : Int)
theorem mkl_len (k : Int) (n : Nat) : (mkl k n).length = n := by simp [mkl]
theorem mkl_rd {k : Int} {n j : Nat} (h : j < n) : rd (mkl k n) j = k + j := by simp [mkl, rd, List.getD_eq_getElem?_getD, h]
def mki (a : List Int) (k : Int) (i : Nat) : List Int := (List.range a.length).map fun j => if j < i then k + (j : Int) else rd a j
theorem mki_len (a : List Int) (k : Int) (i : Nat) : (mki a k i).length = a.length := by simp [mki]
theorem mki_zero (a : List Int) (k : Int) : mki a k 0 = a := ints_ext (mki_len a k 0) fun j hj => by
  rw [mki_len] at hj; simp [mki, rd, List.getD_eq_getElem?_getD, hj]
theorem mki_set {a : List Int} {k : Int} {i : Nat} (h : i < a.length) : (mki a k i).set i (k + i) = mki a k (i + 1) := by
  apply List.ext_getElem?
  intro j
  rw [List.getElem?_set]
  by_cases hj : i = j
  · subst hj; simp [mki, h]
  · rw [if_neg hj]
    by_cases h3 : j < a.length
    · have : (j < i) = (j < i + 1) := propext (by omega)
      simp [mki, h3, this]
    · simp [mki, h3]
theorem mki_full (a : List Int) (k : Int) : mki a k a.length = mkl k a.length := by
  unfold mki mkl
  apply List.map_congr_left
  intro j hj
  rw [if_pos (List.mem_range.1 hj)]
/-- rows marked -/
def mkT : Int → List (List Int) → List (List Int)
  | _, [] => []
  | k, r :: rs => mkl k r.length :: mkT (k + r.length) rs
def totR (rs : List (List Int)) : Nat := (rs.map List.length).sum
theorem mkT_len : ∀ (rs : List (List Int)) (k : Int), (mkT k rs).length = rs.length
  | [], _ => rfl
  | r :: rs, k => by simp [mkT, mkT_len rs]
theorem mkT_all {m : Nat} : ∀ {rs : List (List Int)} {k : Int}, All m rs → All m (mkT k rs)
  | [], k, _ => fun r h => by cases h
  | q :: rs, k, h => fun r hr => by
    rcases List.mem_cons.1 hr with rfl | hr
    · rw [mkl_len]; exact h q (List.mem_cons_self ..)
    · exact mkT_all (fun r h' => h r (List.mem_cons_of_mem _ h')) r hr
theorem mkT_small {rs : List (List Int)} {k : Int} (h : Small rs) : Small (mkT k rs) := by
  refine ⟨by rw [mkT_len]; exact h.1, ?_⟩
  have h2 := h.2
  clear h
  induction rs generalizing k with
  | nil => intro r h; cases h
  | cons q rs ih =>
    intro r hr
    rcases List.mem_cons.1 hr with rfl | hr
    · rw [mkl_len]; exact h2 q (List.mem_cons_self ..)
    · exact ih (fun r h' => h2 r (List.mem_cons_of_mem _ h')) r hr
theorem mkT_app : ∀ (a b : List (List Int)) (k : Int), mkT k (a ++ b) = mkT k a ++ mkT (k + totR a) b
  | [], b, k => by simp [mkT, totR]
  | r :: a, b, k => by
    rw [List.cons_append, mkT, mkT, List.cons_append, mkT_app a b]
    have : k + (r.length : Int) + (totR a : Int) = k + (totR (r :: a) : Int) := by simp [totR]; omega
    rw [this]
theorem take_rw {rs : List (List Int)} {k : Nat} (h : k < rs.length) : rs.take (k + 1) = rs.take k ++ [rw_ rs k] := by
  rw [List.take_add_one, List.getElem?_eq_getElem h]
  simp [rw_, List.getD_eq_getElem?_getD, List.getElem?_eq_getElem h]
theorem totR_take {rs : List (List Int)} {k : Nat} (h : k < rs.length) : totR (rs.take (k + 1)) = totR (rs.take k) + (rw_ rs k).length := by rw [take_rw h]; simp [totR]
theorem totR_le (rs : List (List Int)) (k : Nat) : totR (rs.take k) ≤ totR rs := by
  have : totR rs = totR (rs.take k) + totR (rs.drop k) := by unfold totR; rw [← List.sum_append, ← List.map_append, List.take_append_drop]
  omega
def mkS (rs : List (List Int)) (k : Int) (i : Nat) : List (List Int) := mkT k (rs.take i) ++ rs.drop i
theorem mkS_zero (rs : List (List Int)) (k : Int) : mkS rs k 0 = rs := by simp [mkS, mkT]
theorem mkS_full (rs : List (List Int)) (k : Int) : mkS rs k rs.length = mkT k rs := by simp [mkS]
theorem mkS_rw {rs : List (List Int)} {k : Int} {i : Nat} (h : i < rs.length) : rw_ (mkS rs k i) i = rw_ rs i := by
  have hl : (mkT k (rs.take i)).length = i := by rw [mkT_len, List.length_take]; omega
  unfold mkS rw_
  rw [List.getD_eq_getElem?_getD, List.getElem?_append_right (by omega), hl, Nat.sub_self, drop_rw h]; simp [rw_]
theorem mkS_len (rs : List (List Int)) (k : Int) (i : Nat) : (mkS rs k i).length = rs.length := by
  unfold mkS; rw [List.length_append, mkT_len, List.length_take, List.length_drop]; omega
theorem mkS_set {rs : List (List Int)} {k : Int} {i : Nat} (h : i < rs.length) : (mkS rs k i).set i (mkl (k + totR (rs.take i)) (rw_ rs i).length) = mkS rs k (i + 1) := by
  have hl : (mkT k (rs.take i)).length = i := by rw [mkT_len, List.length_take]; omega
  unfold mkS
  rw [List.set_append_right _ _ (by omega), hl, Nat.sub_self, drop_rw h, List.set_cons_zero, take_rw h, mkT_app, mkT, mkT, List.append_assoc]; rfl
theorem mkT_rw {rs : List (List Int)} {k : Int} {i : Nat} (h : i < rs.length) : rw_ (mkT k rs) i = mkl (k + totR (rs.take i)) (rw_ rs i).length := by
  have e : rs = rs.take i ++ rw_ rs i :: rs.drop (i + 1) := by
    have := (List.take_append_drop i rs).symm
    rwa [drop_rw h] at this
  have hl : (mkT k (rs.take i)).length = i := by rw [mkT_len, List.length_take]; omega
  have h2 : mkT k rs = mkT k (rs.take i) ++ mkT (k + totR (rs.take i)) (rw_ rs i :: rs.drop (i + 1)) := by rw [← mkT_app, ← e]
  rw [h2]
  generalize rw_ rs i = z
  unfold rw_
  rw [List.getD_eq_getElem?_getD, List.getElem?_append_right (by omega), hl, Nat.sub_self, mkT]; rfl
end Go.Proofs.Ytdafmafigcljkaa

