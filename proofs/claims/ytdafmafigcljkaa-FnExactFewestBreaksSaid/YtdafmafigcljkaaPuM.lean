/-
  The laws' helpers, continued: slices of numbers, marks that are written and read back. Plain Lean, no program, no condition.
-/
import Derived.Test.YtdafmafigcljkaaDM
import Derived.Test.YtdafmafigcljkaaPuL
namespace Go.Proofs.Ytdafmafigcljkaa
open Go Am
set_option linter.unusedVariables false
set_option linter.unusedSimpArgs false

theorem toInt64S_D {fu : Nat} (hf : Big fu) {r : List Int} (hl : r.length ≤ 4294967296) : D_laws_toInt64S fu r = some r := by
  unfold Big at hf
  unfold D_laws_toInt64S
  rw [chk_t (by omega), loop_seq (fun k => (cpy r r.length k, (k : Int))) r.length r (by omega) ?_ ?_ ?_]
  · rfl
  · intro k hk
    unfold D_laws_toInt64S_s0
    simp (disch := omega) only [chk_inR, chk_in64, bif_dt, Int.toNat_natCast]
    rw [cpy_set _ _ _ hk]; rfl
  · unfold D_laws_toInt64S_s0
    simp (disch := omega) only [bif_df]
    rw [cpy_full _ _ _ (Nat.le_refl _) rfl]
  · rw [cpy_zero]; rfl
/-- rows of numbers that a machine can hold -/
def Small (rs : List (List Int)) : Prop := rs.length ≤ 4294967296 ∧ ∀ r ∈ rs, r.length ≤ 4294967296
theorem toInt64SS_D {fu : Nat} (hf : Big fu) {rs : List (List Int)} (hs : Small rs) : D_laws_toInt64SS fu rs = some rs := by
  have hf' := hf
  have hl := hs.1
  unfold Big at hf
  unfold D_laws_toInt64SS
  rw [chk_t (by omega), loop_seq (fun k => (cpyR [] rs rs.length k, (k : Int))) rs.length rs (by omega) ?_ ?_ ?_]
  · rfl
  · intro k hk
    unfold D_laws_toInt64SS_s0
    simp (disch := omega) only [chk_inR, chk_in64, bif_dt, Int.toNat_natCast, toInt64S_D hf' (hs.2 _ (rw_mem hk)), Option.bind_some]
    rw [cpyR_set _ _ _ _ hk]; rfl
  · unfold D_laws_toInt64SS_s0
    simp (disch := omega) only [bif_df]
    rw [cpyR_full _ _ _ _ (Nat.le_refl _) rfl]
  · rw [cpyR_zero]; rfl
theorem szInt64S_D {fu : Nat} {r : List Int} {l : Int} (h0 : 0 ≤ l) (h1 : l ≤ 1048576) (hl : r.length ≤ 9223372036854775807) : D_laws_szInt64S fu r l = some (szv l r.length) := by
  unfold D_laws_szInt64S szv
  rw [chk_t (by unfold in64; omega)]
  by_cases h : l - (r.length : Int) < 0
  · rw [bif_dt h, if_pos h]
  · rw [bif_df h, if_neg h]
/-- what is left behind some rows, -1 if too little -/
def szR (l : Int) : List (List Int) → Int
  | [] => l
  | r :: rs => if szv l r.length < 0 then -1 else szR (szv l r.length) rs
theorem szv_le {l : Int} {n : Nat} (h0 : 0 ≤ l) : szv l n ≤ l := by unfold szv; split <;> omega
theorem drop_rw {rs : List (List Int)} {k : Nat} (h : k < rs.length) : rs.drop k = rw_ rs k :: rs.drop (k + 1) := by
  rw [List.drop_eq_getElem_cons h]; congr 1
  simp [rw_, List.getD_eq_getElem?_getD, List.getElem?_eq_getElem h]
theorem szInt64SS_D {fu : Nat} (hf : Big fu) {rs : List (List Int)} {l : Int} (h0 : 0 ≤ l) (h1 : l ≤ 1048576) (hl : rs.length ≤ 9223372036854775807) (hr : ∀ r ∈ rs, r.length ≤ 9223372036854775807) :
    D_laws_szInt64SS fu rs l = some (if szv l rs.length < 0 then -1 else szR (szv l rs.length) rs) := by
  unfold Big at hf
  unfold D_laws_szInt64SS
  rw [chk_t (by unfold in64; omega)]
  by_cases h : l - (rs.length : Int) < 0
  · rw [bif_dt h]
    have : szv l rs.length < 0 := by unfold szv; rw [if_pos h]; omega
    rw [if_pos this]
  · rw [bif_df h]
    have e : szv l rs.length = l - rs.length := by unfold szv; rw [if_neg h]
    rw [if_neg (by rw [e]; omega), e]
    -- the loop from row k on, with x left
    have key : ∀ (m k : Nat) (x : Int) (fu : Nat), k + m = rs.length → m < fu → 0 ≤ x → x ≤ 1048576 →
        (loopF (D_laws_szInt64SS_s0 fu rs) fu (x, (k : Int))).bind (fun | .inl x => some x | .inr v => some v) = some (szR x (rs.drop k)) := by
      intro m k x fu hk hf hx0 hx1
      have gen : ∀ (m k : Nat) (x : Int) (n : Nat), k + m = rs.length → m < n → 0 ≤ x → x ≤ 1048576 →
          (loopF (D_laws_szInt64SS_s0 fu rs) n (x, (k : Int))).bind (fun | .inl x => some x | .inr v => some v) = some (szR x (rs.drop k)) := by
        intro m
        induction m with
        | zero =>
          intro k x n hk hn _ _
          obtain ⟨n, rfl⟩ : ∃ n', n = n' + 1 := ⟨n - 1, by omega⟩
          have hs : D_laws_szInt64SS_s0 fu rs (x, (k : Int)) = some (.out (.inl x)) := by
            unfold D_laws_szInt64SS_s0; simp (disch := omega) only [bif_df]
          rw [loop_out hs, List.drop_of_length_le (by omega)]; rfl
        | succ m ih =>
          intro k x n hk hn hx0 hx1
          obtain ⟨n, rfl⟩ : ∃ n', n = n' + 1 := ⟨n - 1, by omega⟩
          have hkl : k < rs.length := by omega
          rw [drop_rw hkl, szR]
          by_cases hz : szv x (rw_ rs k).length < 0
          · have hs : D_laws_szInt64SS_s0 fu rs (x, (k : Int)) = some (.out (.inr (-1))) := by
              unfold D_laws_szInt64SS_s0
              simp (disch := omega) only [bif_dt, chk_inR, Int.toNat_natCast, szInt64S_D hx0 hx1 (hr _ (rw_mem hkl)), Option.bind_some]
            rw [loop_out hs, if_pos hz]; rfl
          · have hs : D_laws_szInt64SS_s0 fu rs (x, (k : Int)) = some (.go (szv x (rw_ rs k).length, ((k + 1 : Nat) : Int))) := by
              unfold D_laws_szInt64SS_s0
              simp (disch := omega) only [bif_dt, bif_df, chk_inR, chk_in64, Int.toNat_natCast, szInt64S_D hx0 hx1 (hr _ (rw_mem hkl)), Option.bind_some]
              rfl
            rw [loop_go hs, if_neg hz]
            exact ih (k + 1) _ n (by omega) (by omega) (by omega) (by have := szv_le (n := (rw_ rs k).length) hx0; omega)
      exact gen m k x fu hk hf hx0 hx1
    have := key rs.length 0 (l - rs.length) fu (by omega) (by omega) (by omega) (by omega)
    rw [List.drop_zero] at this
    exact this
theorem szR_small : ∀ {rs : List (List Int)} {l : Int}, 0 ≤ l → l ≤ 1048576 → ¬ szR l rs < 0 → ∀ r ∈ rs, r.length ≤ 1048576
  | [], l, _, _, _ => fun r h => by cases h
  | q :: rs, l, h0, h1, h => by
    rw [szR] at h
    split at h
    · omega
    · rename_i hz
      have e : szv l q.length = l - q.length := by unfold szv at *; split at hz <;> rename_i h2; omega; rw [if_neg h2]
      intro r hr
      rcases List.mem_cons.1 hr with rfl | hr
      · omega
      · exact szR_small (by omega) (by omega) h r hr
theorem sz_small {rs : List (List Int)} (h : ¬ (if szv 1048576 rs.length < 0 then -1 else szR (szv 1048576 rs.length) rs) < 0) : rs.length ≤ 1048576 ∧ ∀ r ∈ rs, r.length ≤ 1048576 := by
  split at h
  · omega
  · rename_i hz
    have e := szv_pos hz
    have e2 : szv 1048576 rs.length = 1048576 - rs.length := by unfold szv; rw [if_neg (by omega)]
    exact ⟨e, szR_small (by omega) (by omega) h⟩
theorem eqInt64S_D {fu : Nat} (hf : Big fu) {r q : List Int} (hl : r.length ≤ 4294967296) : D_laws_eqInt64S fu r q = some (decide (r = q)) := by
  unfold Big at hf
  unfold D_laws_eqInt64S
  by_cases hlen : r.length = q.length
  · rw [bif_nt (by omega), loop_all (fun k => (k : Int)) (fun k => decide (rd r k = rd q k)) r.length (by omega) ?_ ?_ ?_ (s := 0) rfl]
    · have : (List.range r.length).all (fun k => decide (rd r k = rd q k)) = decide (r = q) := by
        rw [Bool.eq_iff_iff, List.all_eq_true, decide_eq_true_eq]
        constructor
        · intro h; exact ints_ext hlen fun j hj => by simpa using h j (List.mem_range.2 (by omega))
        · rintro rfl; simp
      rw [this]
      by_cases h : r = q
      · subst h; simp
      · simp [h]
    · intro k hk hp _
      have hp' : rd r k = rd q k := by simpa using hp
      unfold D_laws_eqInt64S_s0
      simp (disch := omega) only [chk_inR, chk_in64, bif_dt, bif_nt, Int.toNat_natCast]
      rfl
    · intro k hk hp _
      have hp' : ¬ rd r k = rd q k := by simpa using hp
      unfold D_laws_eqInt64S_s0
      simp (disch := omega) only [chk_inR, chk_in64, bif_dt, bif_nf, Int.toNat_natCast]
    · intro _
      unfold D_laws_eqInt64S_s0
      simp (disch := omega) only [bif_df]
  · rw [bif_nf (by omega)]
    congr 1
    exact (decide_eq_false (fun h => hlen (by rw [h]))).symm
theorem eqInt64SS_D {fu : Nat} (hf : Big fu) {rs qs : List (List Int)} (hs : Small rs) : D_laws_eqInt64SS fu rs qs = some (decide (rs = qs)) := by
  have hf' := hf
  have hl := hs.1
  unfold Big at hf
  unfold D_laws_eqInt64SS
  by_cases hlen : rs.length = qs.length
  · rw [bif_nt (by omega), loop_all (fun k => (k : Int)) (fun k => decide (rw_ rs k = rw_ qs k)) rs.length (by omega) ?_ ?_ ?_ (s := 0) rfl]
    · have : (List.range rs.length).all (fun k => decide (rw_ rs k = rw_ qs k)) = decide (rs = qs) := by
        rw [Bool.eq_iff_iff, List.all_eq_true, decide_eq_true_eq]
        constructor
        · intro h; exact rows_ext hlen fun j hj => by simpa using h j (List.mem_range.2 (by omega))
        · rintro rfl; simp
      rw [this]
      by_cases h : rs = qs
      · subst h; simp
      · simp [h]
    · intro k hk hp _
      have hp' : rw_ rs k = rw_ qs k := by simpa using hp
      unfold D_laws_eqInt64SS_s0
      simp (disch := omega) only [chk_inR, chk_in64, bif_dt, Int.toNat_natCast, eqInt64S_D hf' (hs.2 _ (rw_mem hk)), Option.bind_some, bif_nt hp']
      rfl
    · intro k hk hp _
      have hp' : ¬ rw_ rs k = rw_ qs k := by simpa using hp
      unfold D_laws_eqInt64SS_s0
      simp (disch := omega) only [chk_inR, chk_in64, bif_dt, Int.toNat_natCast, eqInt64S_D hf' (hs.2 _ (rw_mem hk)), Option.bind_some, bif_nf hp']
    · intro _
      unfold D_laws_eqInt64SS_s0
      simp (disch := omega) only [bif_df]
  · rw [bif_nf (by omega)]
    congr 1
    exact (decide_eq_false (fun h => hlen (by rw [h]))).symm

/-! marks -/
def mkl (k : Int) (n : Nat) : List Int := (List.range n).map fun (j : Nat) => k + (j : Int)
theorem mkl_len (k : Int) (n : Nat) : (mkl k n).length = n := by simp [mkl]
theorem mkl_rd {k : Int} {n j : Nat} (h : j < n) : rd (mkl k n) j = k + j := by simp [mkl, rd, List.getD_eq_getElem?_getD, h]
def mki (a : List Int) (k : Int) (i : Nat) : List Int := (List.range a.length).map fun j => if j < i then k + (j : Int) else rd a j
theorem mki_len (a : List Int) (k : Int) (i : Nat) : (mki a k i).length = a.length := by simp [mki]
theorem mki_zero (a : List Int) (k : Int) : mki a k 0 = a := ints_ext (mki_len a k 0) fun j hj => by
  rw [mki_len] at hj; simp [mki, rd, List.getD_eq_getElem?_getD, hj]
theorem mki_set {a : List Int} {k : Int} {i : Nat} (h : i < a.length) : (mki a k i).set i (k + i) = mki a k (i + 1) := by
  apply List.ext_getElem?
  intro j
  rw [List.getElem?_set]
  by_cases hj : i = j
  · subst hj; simp [mki, h]
  · rw [if_neg hj]
    by_cases h3 : j < a.length
    · have : (j < i) = (j < i + 1) := propext (by omega)
      simp [mki, h3, this]
    · simp [mki, h3]
theorem mki_full (a : List Int) (k : Int) : mki a k a.length = mkl k a.length := by
  unfold mki mkl
  apply List.map_congr_left
  intro j hj
  rw [if_pos (List.mem_range.1 hj)]
theorem markInt64S_D {fu : Nat} (hf : Big fu) {a : List Int} {k : Int} (hl : a.length ≤ 4294967296) (h0 : 0 ≤ k) (h1 : k + a.length ≤ 4611686018427387904) : D_laws_markInt64S fu a k = some (k + a.length, mkl k a.length) := by
  unfold Big at hf
  unfold D_laws_markInt64S
  rw [loop_seq (fun j => (mki a k j, k + (j : Int), (j : Int))) a.length (mkl k a.length, k + a.length) (by omega) ?_ ?_ ?_]
  · rfl
  · intro j hj
    unfold D_laws_markInt64S_s0
    simp (disch := omega) only [chk_inR, chk_in64, bif_dt, Int.toNat_natCast]
    rw [mki_set hj, Int.add_assoc]; rfl
  · unfold D_laws_markInt64S_s0
    simp (disch := omega) only [bif_df]
    rw [mki_full]
  · rw [mki_zero]; simp
theorem heldInt64S_D {fu : Nat} (hf : Big fu) {k : Int} {n : Nat} (hl : n ≤ 4294967296) (h0 : 0 ≤ k) (h1 : k + n ≤ 4611686018427387904) : D_laws_heldInt64S fu (mkl k n) k = some (k + n) := by
  unfold Big at hf
  unfold D_laws_heldInt64S
  rw [loop_seq (fun j => (k + (j : Int), (j : Int))) n (.inl (k + n)) (by omega) ?_ ?_ ?_]
  · rfl
  · intro j hj
    have hlen := mkl_len k n
    unfold D_laws_heldInt64S_s0
    simp (disch := omega) only [chk_inR, chk_in64, bif_dt, Int.toNat_natCast, mkl_rd hj, bif_nt]
    rw [Int.add_assoc]; rfl
  · have hlen := mkl_len k n
    unfold D_laws_heldInt64S_s0
    simp (disch := omega) only [bif_df]
  · simp
/-- rows marked -/
def mkT : Int → List (List Int) → List (List Int)
  | _, [] => []
  | k, r :: rs => mkl k r.length :: mkT (k + r.length) rs
def totR (rs : List (List Int)) : Nat := (rs.map List.length).sum
theorem mkT_len : ∀ (rs : List (List Int)) (k : Int), (mkT k rs).length = rs.length
  | [], _ => rfl
  | r :: rs, k => by simp [mkT, mkT_len rs]
theorem mkT_all {m : Nat} : ∀ {rs : List (List Int)} {k : Int}, All m rs → All m (mkT k rs)
  | [], k, _ => fun r h => by cases h
  | q :: rs, k, h => fun r hr => by
    rcases List.mem_cons.1 hr with rfl | hr
    · rw [mkl_len]; exact h q (List.mem_cons_self ..)
    · exact mkT_all (fun r h' => h r (List.mem_cons_of_mem _ h')) r hr
theorem mkT_small {rs : List (List Int)} {k : Int} (h : Small rs) : Small (mkT k rs) := by
  refine ⟨by rw [mkT_len]; exact h.1, ?_⟩
  have h2 := h.2
  clear h
  induction rs generalizing k with
  | nil => intro r h; cases h
  | cons q rs ih =>
    intro r hr
    rcases List.mem_cons.1 hr with rfl | hr
    · rw [mkl_len]; exact h2 q (List.mem_cons_self ..)
    · exact ih (fun r h' => h2 r (List.mem_cons_of_mem _ h')) r hr
theorem mkT_app : ∀ (a b : List (List Int)) (k : Int), mkT k (a ++ b) = mkT k a ++ mkT (k + totR a) b
  | [], b, k => by simp [mkT, totR]
  | r :: a, b, k => by
    rw [List.cons_append, mkT, mkT, List.cons_append, mkT_app a b]
    have : k + (r.length : Int) + (totR a : Int) = k + (totR (r :: a) : Int) := by simp [totR]; omega
    rw [this]
theorem take_rw {rs : List (List Int)} {k : Nat} (h : k < rs.length) : rs.take (k + 1) = rs.take k ++ [rw_ rs k] := by
  rw [List.take_add_one, List.getElem?_eq_getElem h]
  simp [rw_, List.getD_eq_getElem?_getD, List.getElem?_eq_getElem h]
theorem totR_take {rs : List (List Int)} {k : Nat} (h : k < rs.length) : totR (rs.take (k + 1)) = totR (rs.take k) + (rw_ rs k).length := by rw [take_rw h]; simp [totR]
theorem totR_le (rs : List (List Int)) (k : Nat) : totR (rs.take k) ≤ totR rs := by
  have : totR rs = totR (rs.take k) + totR (rs.drop k) := by unfold totR; rw [← List.sum_append, ← List.map_append, List.take_append_drop]
  omega
def mkS (rs : List (List Int)) (k : Int) (i : Nat) : List (List Int) := mkT k (rs.take i) ++ rs.drop i
theorem mkS_zero (rs : List (List Int)) (k : Int) : mkS rs k 0 = rs := by simp [mkS, mkT]
theorem mkS_full (rs : List (List Int)) (k : Int) : mkS rs k rs.length = mkT k rs := by simp [mkS]
theorem mkS_rw {rs : List (List Int)} {k : Int} {i : Nat} (h : i < rs.length) : rw_ (mkS rs k i) i = rw_ rs i := by
  have hl : (mkT k (rs.take i)).length = i := by rw [mkT_len, List.length_take]; omega
  unfold mkS rw_
  rw [List.getD_eq_getElem?_getD, List.getElem?_append_right (by omega), hl, Nat.sub_self, drop_rw h]; simp [rw_]
theorem mkS_len (rs : List (List Int)) (k : Int) (i : Nat) : (mkS rs k i).length = rs.length := by
  unfold mkS; rw [List.length_append, mkT_len, List.length_take, List.length_drop]; omega
theorem mkS_set {rs : List (List Int)} {k : Int} {i : Nat} (h : i < rs.length) : (mkS rs k i).set i (mkl (k + totR (rs.take i)) (rw_ rs i).length) = mkS rs k (i + 1) := by
  have hl : (mkT k (rs.take i)).length = i := by rw [mkT_len, List.length_take]; omega
  unfold mkS
  rw [List.set_append_right _ _ (by omega), hl, Nat.sub_self, drop_rw h, List.set_cons_zero, take_rw h, mkT_app, mkT, mkT, List.append_assoc]; rfl
theorem mkT_rw {rs : List (List Int)} {k : Int} {i : Nat} (h : i < rs.length) : rw_ (mkT k rs) i = mkl (k + totR (rs.take i)) (rw_ rs i).length := by
  have e : rs = rs.take i ++ rw_ rs i :: rs.drop (i + 1) := by
    have := (List.take_append_drop i rs).symm
    rwa [drop_rw h] at this
  have hl : (mkT k (rs.take i)).length = i := by rw [mkT_len, List.length_take]; omega
  have h2 : mkT k rs = mkT k (rs.take i) ++ mkT (k + totR (rs.take i)) (rw_ rs i :: rs.drop (i + 1)) := by rw [← mkT_app, ← e]
  rw [h2]
  generalize rw_ rs i = z
  unfold rw_
  rw [List.getD_eq_getElem?_getD, List.getElem?_append_right (by omega), hl, Nat.sub_self, mkT]; rfl
theorem markInt64SS_D {fu : Nat} (hf : Big fu) {rs : List (List Int)} {k : Int} (hs : Small rs) (h0 : 0 ≤ k) (h1 : k + totR rs ≤ 4611686018427387904) : D_laws_markInt64SS fu rs k = some (k + totR rs, mkT k rs) := by
  have hf' := hf
  have hl := hs.1
  unfold Big at hf
  unfold D_laws_markInt64SS
  rw [loop_seq (fun j => (mkS rs k j, k + (totR (rs.take j) : Int), (j : Int))) rs.length (mkT k rs, k + totR rs) (by omega) ?_ ?_ ?_]
  · rfl
  · intro j hj
    have t1 := totR_take hj
    have t2 := totR_le rs (j + 1)
    unfold D_laws_markInt64SS_s0
    simp (disch := omega) only [chk_inR, chk_in64, bif_dt, Int.toNat_natCast, mkS_rw hj, markInt64S_D hf' (hs.2 _ (rw_mem hj)) (k := k + (totR (rs.take j) : Int)) (by omega) (by omega), Option.bind_some]
    rw [mkS_set hj, t1, Int.add_assoc]; rfl
  · unfold D_laws_markInt64SS_s0
    simp (disch := omega) only [bif_df]
    rw [mkS_full, List.take_length]
  · rw [mkS_zero]; simp [totR]
theorem heldInt64SS_D {fu : Nat} (hf : Big fu) {rs : List (List Int)} {k : Int} (hs : Small rs) (h0 : 0 ≤ k) (h1 : k + totR rs ≤ 4611686018427387904) : D_laws_heldInt64SS fu (mkT k rs) k = some (k + totR rs) := by
  have hf' := hf
  have hl := hs.1
  have hml := mkT_len rs k
  unfold Big at hf
  unfold D_laws_heldInt64SS
  rw [loop_seq (fun j => (k + (totR (rs.take j) : Int), (j : Int))) rs.length (.inl (k + totR rs)) (by omega) ?_ ?_ ?_]
  · rfl
  · intro j hj
    have t1 := totR_take hj
    have t2 := totR_le rs (j + 1)
    unfold D_laws_heldInt64SS_s0
    simp (disch := omega) only [chk_inR, chk_in64, bif_dt, bif_df, Int.toNat_natCast, mkT_rw hj, heldInt64S_D hf' (n := (rw_ rs j).length) (k := k + (totR (rs.take j) : Int)) (hs.2 _ (rw_mem hj)) (by omega) (by omega), Option.bind_some]
    rw [t1, Int.natCast_add, ← Int.add_assoc]; rfl
  · unfold D_laws_heldInt64SS_s0
    simp (disch := omega) only [bif_df]
    rw [List.take_length]
  · simp [totR]
end Go.Proofs.Ytdafmafigcljkaa

