
/-
  MultipleOf: what program and reference compute, and the law. Plain Lean, no program, no condition.
-/
import Derived.Test.YtdafmafigcljkaaGreatDA
import Derived.Test.YtdafmafigcljkaaGreatDMa
import Derived.Test.YtdafmafigcljkaaGreatDMb
import Derived.Test.YtdafmafigcljkaaGreatDMc
import Derived.Test.YtdafmafigcljkaaGreatDSa
import Derived.Test.YtdafmafigcljkaaGreatQb
import Derived.KernelRfl
namespace Go.Proofs.YtdafmafigcljkaaGreat
open Go Am
set_option linter.unusedVariables false
set_option linter.unusedSimpArgs false
def ipos (c : List Int → Bool) (S : List (List Int)) : Nat := firstNot (fun j => c (rw_ S (S.length - 1 - j))) S.length
def insB (c : List Int → Bool) (S : List (List Int)) (x : List Int) : List (List Int) := S.take (S.length - ipos c S) ++ x :: S.drop (S.length - ipos c S)
theorem ipos_le (c : List Int → Bool) (S : List (List Int)) : ipos c S ≤ S.length := firstNot_le _ _
theorem insB_len (c : List Int → Bool) (S : List (List Int)) (x : List Int) : (insB c S x).length = S.length + 1 := by
  unfold insB; simp; omega
theorem insB_mem {c : List Int → Bool} {S : List (List Int)} {x y : List Int} : y ∈ insB c S x ↔ y = x ∨ y ∈ S := by
  unfold insB
  rw [List.mem_append, List.mem_cons]
  constructor
  · rintro (h | h | h)
    · exact .inr (List.mem_of_mem_take h)
    · exact .inl h
    · exact .inr (List.mem_of_mem_drop h)
  · rintro (h | h)
    · exact .inr (.inl h)
    · rw [← List.take_append_drop (S.length - ipos c S) S] at h
      rcases List.mem_append.1 h with h | h
      · exact .inl h
      · exact .inr (.inr h)
def srtB (lt : List Int → List Int → Bool) (l : List (List Int)) : List (List Int) := l.foldl (fun S x => insB (lt x) S x) []
theorem srtB_snoc (lt : List Int → List Int → Bool) (l : List (List Int)) (x : List Int) : srtB lt (l ++ [x]) = insB (lt x) (srtB lt l) x := by
  unfold srtB; rw [List.foldl_append]; rfl
theorem foldB_len (lt : List Int → List Int → Bool) : ∀ (l S : List (List Int)), (l.foldl (fun S x => insB (lt x) S x) S).length = S.length + l.length
  | [], S => rfl
  | x :: l, S => by rw [List.foldl_cons, foldB_len lt l, insB_len, List.length_cons]; omega
theorem srtB_len (lt : List Int → List Int → Bool) (l : List (List Int)) : (srtB lt l).length = l.length := by unfold srtB; rw [foldB_len]; simp
theorem foldB_mem (lt : List Int → List Int → Bool) {y : List Int} : ∀ (l S : List (List Int)), y ∈ l.foldl (fun S x => insB (lt x) S x) S ↔ y ∈ S ∨ y ∈ l
  | [], S => by simp
  | x :: l, S => by
    rw [List.foldl_cons, foldB_mem lt l, insB_mem, List.mem_cons]
    constructor
    · rintro ((h | h) | h)
      · exact .inr (.inl h)
      · exact .inl h
      · exact .inr (.inr h)
    · rintro (h | h | h)
      · exact .inl (.inr h)
      · exact .inl (.inl h)
      · exact .inr h
theorem srtB_mem {lt : List Int → List Int → Bool} {l : List (List Int)} {y : List Int} : y ∈ srtB lt l ↔ y ∈ l := by
  unfold srtB; rw [foldB_mem]; simp
theorem srtB_take {lt : List Int → List Int → Bool} {l : List (List Int)} {k : Nat} (h : k < l.length) : srtB lt (l.take (k + 1)) = insB (lt (rw_ l k)) (srtB lt (l.take k)) (rw_ l k) := by
  rw [take_rw h, srtB_snoc]
theorem mid_lt {A B : List (List Int)} {x : List Int} {k : Nat} (h : k < A.length) : rw_ (A ++ x :: B) k = rw_ A k := by
  unfold rw_; rw [List.getD_eq_getElem?_getD, List.getD_eq_getElem?_getD, List.getElem?_append_left h]
theorem mid_at {A B : List (List Int)} {x : List Int} {k : Nat} (h : k = A.length) : rw_ (A ++ x :: B) k = x := by
  subst h; unfold rw_; rw [List.getD_eq_getElem?_getD, List.getElem?_append_right (Nat.le_refl _), Nat.sub_self]; rfl
theorem mid_set {A B : List (List Int)} {x y : List Int} {k : Nat} (h : k = A.length) : (A ++ x :: B).set k y = A ++ y :: B := by
  subst h; rw [List.set_append_right _ _ (Nat.le_refl _), Nat.sub_self]; rfl
theorem rw_take {S : List (List Int)} {n k : Nat} (h : k < n) : rw_ (S.take n) k = rw_ S k := by
  unfold rw_; rw [List.getD_eq_getElem?_getD, List.getD_eq_getElem?_getD, List.getElem?_take_of_lt h]
theorem take_pred {S : List (List Int)} {k : Nat} (h0 : 0 < k) (h : k ≤ S.length) : S.take k = S.take (k - 1) ++ [rw_ S (k - 1)] := by
  obtain ⟨j, rfl⟩ : ∃ j, k = j + 1 := ⟨k - 1, by omega⟩
  rw [Nat.add_sub_cancel, take_rw (by omega)]
theorem drop_pred {S : List (List Int)} {k : Nat} (h0 : 0 < k) (h : k ≤ S.length) : S.drop (k - 1) = rw_ S (k - 1) :: S.drop k := by
  obtain ⟨j, rfl⟩ : ∃ j, k = j + 1 := ⟨k - 1, by omega⟩
  rw [Nat.add_sub_cancel, drop_rw (by omega)]
def cmpv (x y : List Int) : Int := if rd x 0 < rd y 0 then -1 else 1
def ltc (x y : List Int) : Bool := decide (rd x 0 < rd y 0)
theorem Compare_D {fu : Nat} (hf : 2 < fu) {x y : List Int} (hx : x.length = 2) (hy : y.length = 2) (hne : rd x 0 ≠ rd y 0) : D_slices_Compare_Sint64_int64 fu x y = some (cmpv x y) := by
  unfold D_slices_Compare_Sint64_int64 cmpv
  have : loopF (D_slices_Compare_Sint64_int64_s0 fu x y) fu 0 = some (.inr (if rd x 0 < rd y 0 then -1 else 1)) := by
    obtain ⟨n, rfl⟩ : ∃ n, fu = n + 1 := ⟨fu - 1, by omega⟩
    refine loop_out ?_
    unfold D_slices_Compare_Sint64_int64_s0 D_cmp_Compare_int64 D_cmp_isNaN_int64
    rw [hx, hy, bif_dt (by omega), chk_inR (by omega) (by omega), bif_df (by omega), chk_inR (by omega) (by omega)]
    simp only [decide_true, Bool.not_true, Option.bind_some, bif_false]
    show (Option.bind (bif decide (rd x 0 < rd y 0) then _ else _) _) = _
    by_cases h : rd x 0 < rd y 0
    · rw [bif_dt h, if_pos h]; rfl
    · rw [bif_df h, bif_dt (by show rd y 0 < rd x 0; omega), if_neg h]; rfl
  rw [this]; rfl
theorem cmpv_lt (x y : List Int) : decide (cmpv x y < 0) = ltc x y := by
  unfold cmpv ltc; by_cases h : rd x 0 < rd y 0
  · rw [if_pos h, decide_eq_true h]; rfl
  · rw [if_neg h, decide_eq_false h]; rfl
def Df (l : List (List Int)) : Prop := (∀ p ∈ l, p.length = 2) ∧ ∀ i j, i < j → j < l.length → rd (rw_ l i) 0 ≠ rd (rw_ l j) 0
abbrev insS1 := D_slices_insertionSortCmpFunc_Sint64__slices_Compare_Sint64_int64_s1
theorem inner_D {fu : Nat} (hf : 2000 < fu) {S R : List (List Int)} {x : List Int} {n : Nat} (hn : n = S.length + 1 + R.length) (hb : n ≤ 1000) (hx : x.length = 2) (hS : ∀ y ∈ S, y.length = 2 ∧ rd x 0 ≠ rd y 0) :
    loopF (insS1 fu 0 n) fu (S ++ x :: R, ((S.length : Nat) : Int)) = some (insB (ltc x) S x ++ R) := by
  have hf' := hf
  have key : ∀ q, q ≤ S.length → (insB (ltc x) S x = insB (ltc x) S x) := fun _ _ => rfl
  rw [loop_find (fun q => (S.take (S.length - q) ++ x :: (S.drop (S.length - q) ++ R), (((S.length - q : Nat) : Nat) : Int))) (fun q => ltc x (rw_ S (S.length - 1 - q))) S.length (S.drop 0 |> fun _ => x :: S ++ R) (fun q => S.take (S.length - q) ++ x :: (S.drop (S.length - q) ++ R)) (by omega) ?_ ?_ ?_ (by simp)]
  · unfold insB
    show some (if ipos (ltc x) S < S.length then S.take (S.length - ipos (ltc x) S) ++ x :: (S.drop (S.length - ipos (ltc x) S) ++ R) else _) = _
    have := ipos_le (ltc x) S
    split
    · simp
    · have e : S.length - ipos (ltc x) S = 0 := by omega
      rw [e]; simp
  · intro q hq hp _
    have hl : (S.take (S.length - q)).length = S.length - q := by rw [List.length_take]; omega
    unfold insS1 D_slices_insertionSortCmpFunc_Sint64__slices_Compare_Sint64_int64_s1
    dsimp only
    have e1 : (((S.length - q : Nat) : Int) - 1).toNat = S.length - q - 1 := by omega
    have hm : rw_ (S.take (S.length - q) ++ x :: (S.drop (S.length - q) ++ R)) (S.length - q) = x := mid_at hl.symm
    have hm1 : rw_ (S.take (S.length - q) ++ x :: (S.drop (S.length - q) ++ R)) (S.length - q - 1) = rw_ S (S.length - 1 - q) := by
      rw [mid_lt (by omega), rw_take (by omega), show S.length - q - 1 = S.length - 1 - q by omega]
    have hy := hS _ (rw_mem (show S.length - 1 - q < S.length by omega))
    rw [bif_dt (by omega), chk_inR (by omega) (by omega), chk_in64 (by omega) (by omega), chk_inR (by omega) (by omega), Int.toNat_natCast, e1, hm, hm1, Compare_D (by omega) hx hy.1 hy.2, Option.bind_some, cmpv_lt, hp, Option.bind_some, bif_true]
    rw [chk_in64 (by omega) (by omega), chk_in64 (by omega) (by omega), chk_inR (by omega) (by omega), chk_inR (by omega) (by omega), chk_inR (by omega) (by omega), chk_inR (by omega) (by omega), chk_in64 (by omega) (by omega)]
    rw [mid_set hl.symm]
    have e2 : S.take (S.length - q) = S.take (S.length - (q + 1)) ++ [rw_ S (S.length - 1 - q)] := by
      have := take_pred (S := S) (k := S.length - q) (by omega) (by omega)
      rw [show S.length - (q + 1) = S.length - q - 1 by omega, show S.length - 1 - q = S.length - q - 1 by omega]; exact this
    have e3 : S.drop (S.length - (q + 1)) = rw_ S (S.length - 1 - q) :: S.drop (S.length - q) := by
      have := drop_pred (S := S) (k := S.length - q) (by omega) (by omega)
      rw [show S.length - (q + 1) = S.length - q - 1 by omega, show S.length - 1 - q = S.length - q - 1 by omega]; exact this
    have e4 : (S.take (S.length - (q + 1))).length = S.length - q - 1 := by rw [List.length_take]; omega
    rw [e3]
    conv => lhs; rw [e2]
    rw [List.append_assoc]
    show some (Lo.go (((S.take (S.length - (q + 1)) ++ rw_ S (S.length - 1 - q) :: rw_ S (S.length - 1 - q) :: (S.drop (S.length - q) ++ R)).set (S.length - q - 1) x), _)) = _
    rw [mid_set e4.symm]
    congr 3; omega
  · intro q hq hp _
    have hl : (S.take (S.length - q)).length = S.length - q := by rw [List.length_take]; omega
    unfold insS1 D_slices_insertionSortCmpFunc_Sint64__slices_Compare_Sint64_int64_s1
    dsimp only
    have e1 : (((S.length - q : Nat) : Int) - 1).toNat = S.length - q - 1 := by omega
    have hm : rw_ (S.take (S.length - q) ++ x :: (S.drop (S.length - q) ++ R)) (S.length - q) = x := mid_at hl.symm
    have hm1 : rw_ (S.take (S.length - q) ++ x :: (S.drop (S.length - q) ++ R)) (S.length - q - 1) = rw_ S (S.length - 1 - q) := by
      rw [mid_lt (by omega), rw_take (by omega), show S.length - q - 1 = S.length - 1 - q by omega]
    have hy := hS _ (rw_mem (show S.length - 1 - q < S.length by omega))
    rw [bif_dt (by omega), chk_inR (by omega) (by omega), chk_in64 (by omega) (by omega), chk_inR (by omega) (by omega), Int.toNat_natCast, e1, hm, hm1, Compare_D (by omega) hx hy.1 hy.2, Option.bind_some, cmpv_lt, hp, Option.bind_some, bif_false]
  · intro _
    unfold insS1 D_slices_insertionSortCmpFunc_Sint64__slices_Compare_Sint64_int64_s1
    dsimp only
    rw [bif_df (by omega), Option.bind_some, bif_false, Nat.sub_self]; rfl
theorem Df.ne {l : List (List Int)} (h : Df l) {k : Nat} (hk : k < l.length) : ∀ y ∈ l.take k, y.length = 2 ∧ rd (rw_ l k) 0 ≠ rd y 0 := fun y hy => by
  refine ⟨h.1 y (List.mem_of_mem_take hy), ?_⟩
  obtain ⟨i, hi, rfl⟩ := rw_of hy
  rw [List.length_take] at hi
  rw [rw_take (by omega)]
  exact Ne.symm (h.2 i k (by omega) hk)
theorem ltc_srt {l : List (List Int)} {k : Nat} (hk : k < l.length) : srtB ltc (l.take (k + 1)) = insB (ltc (rw_ l k)) (srtB ltc (l.take k)) (rw_ l k) := srtB_take hk
theorem insSort_D {fu : Nat} (hf : 2000 < fu) {l : List (List Int)} (hd : Df l) (hb : l.length ≤ 1000) : D_slices_insertionSortCmpFunc_Sint64__slices_Compare_Sint64_int64 fu 0 ((l.length : Nat) : Int) l.length l = some (srtB ltc l) := by
  have hf' := hf
  unfold D_slices_insertionSortCmpFunc_Sint64__slices_Compare_Sint64_int64
  rw [chk_in64 (by omega) (by omega)]
  by_cases h0 : l.length = 0
  · obtain rfl := List.eq_nil_of_length_eq_zero h0
    rw [loop_seq (fun _ => (([] : List (List Int)), (0 + 1 : Int))) 0 [] (by omega) (fun k hk => absurd hk (by omega)) ?_ rfl]
    · rfl
    · unfold D_slices_insertionSortCmpFunc_Sint64__slices_Compare_Sint64_int64_s0
      dsimp only
      rw [bif_df (by simp)]
  · rw [loop_seq (fun k => (srtB ltc (l.take (k + 1)) ++ l.drop (k + 1), ((k + 1 : Nat) : Int))) (l.length - 1) (srtB ltc l) (by omega) ?_ ?_ ?_]
    · rfl
    · intro k hk
      unfold D_slices_insertionSortCmpFunc_Sint64__slices_Compare_Sint64_int64_s0
      dsimp only
      have hS : (srtB ltc (l.take (k + 1))).length = k + 1 := by rw [srtB_len, List.length_take]; omega
      have e := inner_D hf' (S := srtB ltc (l.take (k + 1))) (R := l.drop (k + 2)) (x := rw_ l (k + 1)) (n := l.length) (by rw [hS, List.length_drop]; omega) hb (hd.1 _ (rw_mem (by omega))) (fun y hy => hd.ne (by omega) y (srtB_mem.1 hy))
      rw [hS] at e
      rw [bif_dt (by omega), drop_rw (by omega), e, Option.bind_some, chk_in64 (by omega) (by omega), ltc_srt (k := k + 1) (by omega)]
      rfl
    · unfold D_slices_insertionSortCmpFunc_Sint64__slices_Compare_Sint64_int64_s0
      dsimp only
      rw [bif_df (by omega), List.take_of_length_le (by omega), List.drop_of_length_le (by omega), List.append_nil]
    · have e : l.take 1 = [rw_ l 0] := by rw [take_rw (by omega)]; rfl
      have e2 : srtB ltc (l.take (0 + 1)) ++ l.drop (0 + 1) = l := by
        show srtB ltc (l.take 1) ++ l.drop 1 = l
        rw [e]
        show [rw_ l 0] ++ l.drop 1 = l
        have := drop_rw (rs := l) (k := 0) (by omega)
        rw [List.drop_zero] at this
        exact this.symm
      rw [e2]; rfl
theorem Len_D {fu : Nat} {n : Nat} (h : n ≤ 12) : ∃ r, D_math_bits_Len fu (IntKind.u64.wrap ((n : Nat) : Int)) = some r := by
  have : n = 0 ∨ n = 1 ∨ n = 2 ∨ n = 3 ∨ n = 4 ∨ n = 5 ∨ n = 6 ∨ n = 7 ∨ n = 8 ∨ n = 9 ∨ n = 10 ∨ n = 11 ∨ n = 12 := by omega
  have key : ∀ z : Nat, z ∈ List.range 13 → (D_math_bits_Len fu (IntKind.u64.wrap ((z : Nat) : Int))).isSome = true := by
    have : (List.range 13).all (fun z => (D_math_bits_Len fu (IntKind.u64.wrap ((z : Nat) : Int))).isSome) = true := by kernel_rfl
    exact List.all_eq_true.1 this
  exact Option.isSome_iff_exists.1 (key n (List.mem_range.2 (by omega)))
theorem SortFunc_D {fu : Nat} (hf : Big fu) {l : List (List Int)} (hd : Df l) (hb : l.length ≤ 12) : D_slices_SortFunc_SSint64_Sint64__slices_Compare_Sint64_int64 fu l.length l = some (srtB ltc l) := by
  unfold D_slices_SortFunc_SSint64_Sint64__slices_Compare_Sint64_int64
  obtain ⟨r, hr⟩ := Len_D (fu := fu) hb
  rw [hr, Option.bind_some]
  unfold Big at hf
  obtain ⟨n, rfl⟩ : ∃ n, fu = n + 1 := ⟨fu - 1, by omega⟩
  rw [D_slices_pdqsortCmpFunc_Sint64__slices_Compare_Sint64_int64]
  obtain ⟨n, rfl⟩ : ∃ k, n = k + 1 := ⟨n - 1, by omega⟩
  rw [loop_out (r := srtB ltc l)]
  · rfl
  · unfold D_slices_pdqsortCmpFunc_Sint64__slices_Compare_Sint64_int64_s0
    rw [chk_in64 (by omega) (by omega), bif_dt (by omega), insSort_D (by omega) hd (by omega), Option.bind_some]
def nrm (p : List Int) : List Int := [(if rd p 1 < rd p 0 then rd p 1 else rd p 0), (if rd p 1 > rd p 0 then rd p 1 else rd p 0)]
theorem sInner_D {fu : Nat} (hf : 2000 < fu) {n0 S : List (List Int)} {i : Nat} (hb : S.length ≤ 1000) (hS : ∀ y ∈ S, y.length = 2) :
    loopF (D_spec_l03Sorted_s1 fu n0 S ((i : Nat) : Int)) fu (S ++ [nrm (rw_ n0 i)], ((S.length : Nat) : Int)) =
      some (S.take (S.length - ipos (ltc (nrm (rw_ n0 i))) S) ++ (if ipos (ltc (nrm (rw_ n0 i))) S = 0 then nrm (rw_ n0 i) else rw_ S (S.length - ipos (ltc (nrm (rw_ n0 i))) S)) :: S.drop (S.length - ipos (ltc (nrm (rw_ n0 i))) S), (((S.length - ipos (ltc (nrm (rw_ n0 i))) S : Nat) : Nat) : Int)) := by
  have hi : ((i : Int)).toNat = i := Int.toNat_natCast i
  let x := nrm (rw_ n0 i)
  let z : Nat → List Int := fun q => if q = 0 then x else rw_ S (S.length - q)
  let g : Nat → List (List Int) × Int := fun q => (S.take (S.length - q) ++ z q :: S.drop (S.length - q), (((S.length - q : Nat) : Nat) : Int))
  rw [loop_find g (fun q => ltc x (rw_ S (S.length - 1 - q))) S.length (g S.length) g (by omega) ?_ ?_ ?_ (by simp [g, z, x])]
  · show some (if ipos (ltc x) S < S.length then g (ipos (ltc x) S) else g S.length) = _
    have := ipos_le (ltc x) S
    by_cases h : ipos (ltc x) S < S.length
    · rw [if_pos h]
    · have e : ipos (ltc x) S = S.length := by omega
      rw [if_neg h]
      show some (g S.length) = some (g (ipos (ltc x) S))
      rw [e]
  all_goals first | (intro q hq hp _) | intro _
  · have hl : (S.take (S.length - q)).length = S.length - q := by rw [List.length_take]; omega
    unfold D_spec_l03Sorted_s1
    have e1 : (((S.length - q : Nat) : Int) - 1).toNat = S.length - q - 1 := by omega
    have hm1 : rw_ (S.take (S.length - q) ++ z q :: S.drop (S.length - q)) (S.length - q - 1) = rw_ S (S.length - 1 - q) := by
      rw [mid_lt (by omega), rw_take (by omega), show S.length - q - 1 = S.length - 1 - q by omega]
    have hy := hS _ (rw_mem (show S.length - 1 - q < S.length by omega))
    dsimp only [g]
    rw [hi]
    have hx : [(if rd (rw_ n0 i) 1 < rd (rw_ n0 i) 0 then rd (rw_ n0 i) 1 else rd (rw_ n0 i) 0), (if rd (rw_ n0 i) 1 > rd (rw_ n0 i) 0 then rd (rw_ n0 i) 1 else rd (rw_ n0 i) 0)] = x := rfl
    have hlx : (S ++ [x]).length = S.length + 1 := by simp
    rw [hx, bif_dt (by omega), chk_in64 (by omega) (by omega), hlx, chk_inR (by omega) (by omega), e1, hm1, hy, chk_inR (by omega) (by omega), Option.bind_some, show decide (rd x 0 < rd (rw_ S (S.length - 1 - q)) 0) = true from hp, bif_true]
    rw [chk_in64 (by omega) (by omega), chk_inR (by omega) (by omega), chk_inR (by omega) (by omega), chk_in64 (by omega) (by omega), Int.toNat_natCast, mid_set hl.symm]
    have e2 : S.take (S.length - q) = S.take (S.length - (q + 1)) ++ [rw_ S (S.length - 1 - q)] := by
      have := take_pred (S := S) (k := S.length - q) (by omega) (by omega)
      rw [show S.length - (q + 1) = S.length - q - 1 by omega, show S.length - 1 - q = S.length - q - 1 by omega]; exact this
    have e3 : S.drop (S.length - (q + 1)) = rw_ S (S.length - 1 - q) :: S.drop (S.length - q) := by
      have := drop_pred (S := S) (k := S.length - q) (by omega) (by omega)
      rw [show S.length - (q + 1) = S.length - q - 1 by omega, show S.length - 1 - q = S.length - q - 1 by omega]; exact this
    have ez : z (q + 1) = rw_ S (S.length - 1 - q) := by
      show (if q + 1 = 0 then x else rw_ S (S.length - (q + 1))) = _
      rw [if_neg (by omega), show S.length - (q + 1) = S.length - 1 - q by omega]
    rw [e3, ez]
    conv => lhs; rw [e2]
    rw [List.append_assoc]
    show some (Lo.go (S.take (S.length - (q + 1)) ++ rw_ S (S.length - 1 - q) :: rw_ S (S.length - 1 - q) :: S.drop (S.length - q), _)) = _
    congr 3; omega
  · have hl : (S.take (S.length - q)).length = S.length - q := by rw [List.length_take]; omega
    unfold D_spec_l03Sorted_s1
    have e1 : (((S.length - q : Nat) : Int) - 1).toNat = S.length - q - 1 := by omega
    have hm1 : rw_ (S.take (S.length - q) ++ z q :: S.drop (S.length - q)) (S.length - q - 1) = rw_ S (S.length - 1 - q) := by
      rw [mid_lt (by omega), rw_take (by omega), show S.length - q - 1 = S.length - 1 - q by omega]
    have hy := hS _ (rw_mem (show S.length - 1 - q < S.length by omega))
    dsimp only [g]
    rw [hi]
    have hx : [(if rd (rw_ n0 i) 1 < rd (rw_ n0 i) 0 then rd (rw_ n0 i) 1 else rd (rw_ n0 i) 0), (if rd (rw_ n0 i) 1 > rd (rw_ n0 i) 0 then rd (rw_ n0 i) 1 else rd (rw_ n0 i) 0)] = x := rfl
    have hlx : (S ++ [x]).length = S.length + 1 := by simp
    rw [hx, bif_dt (by omega), chk_in64 (by omega) (by omega), hlx, chk_inR (by omega) (by omega), e1, hm1, hy, chk_inR (by omega) (by omega), Option.bind_some, show decide (rd x 0 < rd (rw_ S (S.length - 1 - q)) 0) = false from hp, bif_false]
  · unfold D_spec_l03Sorted_s1
    dsimp only [g]
    rw [bif_df (by omega), Option.bind_some, bif_false]
theorem ins_at {c : List Int → Bool} {S : List (List Int)} {x y : List Int} : (S.take (S.length - ipos c S) ++ y :: S.drop (S.length - ipos c S)).set (S.length - ipos c S) x = insB c S x :=
  mid_set (by rw [List.length_take]; omega)
theorem sSorted_D {fu : Nat} (hf : Big fu) {l : List (List Int)} (hl : ∀ p ∈ l, p.length = 2) (hb : l.length ≤ 1000) : D_spec_l03Sorted fu l.length l = some (srtB ltc (l.map nrm)) := by
  unfold Big at hf
  unfold D_spec_l03Sorted
  have hn : ∀ k, k < l.length → rw_ (l.map nrm) k = nrm (rw_ l k) := fun k hk => by
    simp [rw_, List.getD_eq_getElem?_getD, List.getElem?_map, List.getElem?_eq_getElem hk]
  rw [loop_seq (fun k => (srtB ltc ((l.map nrm).take k), ((k : Nat) : Int))) l.length (srtB ltc (l.map nrm)) (by omega) ?_ ?_ (s := (([] : List (List Int)), (0 : Int))) (by simp [srtB])]
  · rfl
  · intro k hk
    have hr : (rw_ l k).length = 2 := hl _ (rw_mem hk)
    have hS : (srtB ltc ((l.map nrm).take k)).length = k := by rw [srtB_len, List.length_take, List.length_map]; omega
    have hy : ∀ y ∈ srtB ltc ((l.map nrm).take k), y.length = 2 := fun y hy => by
      obtain ⟨p, _, rfl⟩ := List.mem_map.1 (List.mem_of_mem_take (srtB_mem.1 hy)); rfl
    have e := sInner_D (fu := fu) (by omega) (n0 := l) (S := srtB ltc ((l.map nrm).take k)) (i := k) (by omega) hy
    unfold D_spec_l03Sorted_s0
    dsimp only
    rw [bif_dt (by omega), chk_inR (by omega) (by omega), Int.toNat_natCast, hr, chk_inR (by omega) (by omega), chk_inR (by omega) (by omega), chk_inR (by omega) (by omega), chk_inR (by omega) (by omega), chk_inR (by omega) (by omega), chk_inR (by omega) (by omega), chk_inR (by omega) (by omega), chk_le (by omega)]
    have hx : [(if rd (rw_ l k) 1 < rd (rw_ l k) 0 then rd (rw_ l k) 1 else rd (rw_ l k) 0), (if rd (rw_ l k) 1 > rd (rw_ l k) 0 then rd (rw_ l k) 1 else rd (rw_ l k) 0)] = nrm (rw_ l k) := rfl
    rw [hx, e, Option.bind_some]
    dsimp only
    have hp := ipos_le (ltc (nrm (rw_ l k))) (srtB ltc ((l.map nrm).take k))
    rw [chk_inR (by omega) (by rw [List.length_append, List.length_singleton]; omega), chk_in64 (by omega) (by omega), Int.toNat_natCast, ins_at, srtB_take (by rw [List.length_map]; exact hk), hn k hk]
    rfl
  · unfold D_spec_l03Sorted_s0
    dsimp only
    rw [bif_df (by omega), List.take_of_length_le (by rw [List.length_map]; omega)]
theorem loop_more {S R : Type} {f : S → Option (Lo S R)} : ∀ {n : Nat} {s : S} {r : R} (k : Nat), loopF f n s = some r → loopF f (n + k) s = some r
  | 0, s, r, k, h => by cases h
  | n + 1, s, r, k, h => by
    rw [show n + 1 + k = (n + k) + 1 by omega]
    unfold loopF at h ⊢
    cases e : f s with
    | none => rw [e] at h; cases h
    | some o =>
      rw [e] at h
      cases o with
      | go s' => exact loop_more k h
      | out r' => exact h
def gstep : Int × Int → Option (Lo (Int × Int) Int) := D_impl_divisor_s0 0
def gcv (t m : Int) : Option Int := loopF gstep 64 (t, m)
theorem fin_all : ([3, 5, 7, 9, 11, 13].all fun m => (List.range m).all fun t => match gcv t m with
    | none => false
    | some g => !decide (g = 1) || (List.range m).all fun x => (List.range m).all fun y => !decide (x * t % m = y * t % m) || decide (x = y)) = true := by kernel_rfl
theorem fin_gcv {m t : Int} (hm : isMod m = true) (h0 : 0 ≤ t) (h1 : t < m) : ∃ g, gcv t m = some g ∧ (g = 1 → ∀ x y : Int, 0 ≤ x → x < m → 0 ≤ y → y < m → (x * t).tmod m = (y * t).tmod m → x = y) := by
  have hn := isMod_of hm
  obtain ⟨M, rfl⟩ : ∃ M : Nat, m = M := ⟨m.toNat, by omega⟩
  obtain ⟨T, rfl⟩ : ∃ T : Nat, t = T := ⟨t.toNat, by omega⟩
  have hM : M ∈ [3, 5, 7, 9, 11, 13] := by
    simp only [List.mem_cons, List.not_mem_nil, or_false]; omega
  have h := List.all_eq_true.1 (List.all_eq_true.1 fin_all M hM) T (List.mem_range.2 (by omega))
  cases e : gcv (T : Int) (M : Int) with
  | none => rw [e] at h; cases h
  | some g =>
    rw [e] at h
    refine ⟨g, rfl, fun hg x y hx0 hx1 hy0 hy1 hxy => ?_⟩
    subst hg
    obtain ⟨X, rfl⟩ : ∃ X : Nat, x = X := ⟨x.toNat, by omega⟩
    obtain ⟨Y, rfl⟩ : ∃ Y : Nat, y = Y := ⟨y.toNat, by omega⟩
    simp only [decide_true, Bool.not_true, Bool.false_or] at h
    have := List.all_eq_true.1 (List.all_eq_true.1 h X (List.mem_range.2 (by omega))) Y (List.mem_range.2 (by omega))
    simp only [Bool.or_eq_true, Bool.not_eq_true', decide_eq_false_iff_not, decide_eq_true_eq] at this
    rcases this with h1 | h1
    · refine absurd ?_ h1
      rw [Int.tmod_eq_emod_of_nonneg (Int.mul_nonneg (by omega) (by omega)), Int.tmod_eq_emod_of_nonneg (Int.mul_nonneg (by omega) (by omega))] at hxy
      exact_mod_cast hxy
    · rw [h1]
theorem divisor_D {fu : Nat} (hf : Big fu) {t m g : Int} (h : gcv t m = some g) : D_impl_divisor fu t m = some g ∧ D_spec_l03Gcd fu t m = some g := by
  obtain ⟨k, rfl⟩ : ∃ k, fu = 64 + k := ⟨fu - 64, by unfold Big at hf; omega⟩
  have h1 := loop_more k h
  have e1 : D_impl_divisor_s0 (64 + k) = gstep := rfl
  have e2 : D_spec_l03Gcd_s0 (64 + k) = gstep := rfl
  unfold D_impl_divisor D_spec_l03Gcd
  rw [e1, e2, h1]
  exact ⟨rfl, rfl⟩
def mulP (m t : Int) (ps : List (List Int)) : List (List Int) := ps.map fun p => [(rd p 0 * t).tmod m, (rd p 1 * t).tmod m]
theorem mulP_rw {m t : Int} {ps : List (List Int)} {k : Nat} (h : k < ps.length) : rw_ (mulP m t ps) k = [(rd (rw_ ps k) 0 * t).tmod m, (rd (rw_ ps k) 1 * t).tmod m] := by
  simp [mulP, rw_, List.getD_eq_getElem?_getD, List.getElem?_map, List.getElem?_eq_getElem h]
theorem mul_small {m t x : Int} (hm : 3 ≤ m ∧ m ≤ 13) (ht : 0 ≤ t ∧ t < m) (hx : 1 ≤ x ∧ x ≤ m - 1) : 0 ≤ x * t ∧ x * t ≤ 169 := by
  have h0 : 0 ≤ x * t := Int.mul_nonneg (by omega) (by omega)
  have h1 : x * t ≤ 13 * 13 := Int.mul_le_mul (by omega) (by omega) (by omega) (by omega)
  exact ⟨h0, by omega⟩
theorem iMul_loop {fu : Nat} (hf : Big fu) {m t : Int} (hm : 3 ≤ m ∧ m ≤ 13) (ht : 0 ≤ t ∧ t < m) {ps : List (List Int)} (hb : ps.length ≤ 1000) (hok : ∀ p ∈ ps, okS m p = true) :
    loopF (D_impl_MultipleOf_s0 fu m ps t) fu ([], 0) = some (mulP m t ps) := by
  unfold Big at hf
  rw [loop_seq (fun k => ((mulP m t ps).take k, ((k : Nat) : Int))) ps.length (mulP m t ps) (by omega) ?_ ?_ (s := (([] : List (List Int)), (0 : Int))) (by simp)]
  · intro k hk
    obtain ⟨o0, o1, o2, _⟩ := okS_of (hok _ (rw_mem hk))
    have s0 := mul_small hm ht o1
    have s1 := mul_small hm ht o2
    unfold D_impl_MultipleOf_s0
    dsimp only
    rw [bif_dt (by omega), chk_inR (by omega) (by omega), Int.toNat_natCast, o0, chk_inR (by omega) (by omega), chk_in64 (by omega) (by omega), chk_ne (by omega), chk_inR (by omega) (by omega), chk_in64 (by omega) (by omega), chk_ne (by omega), chk_le (by rw [List.length_take]; omega), chk_in64 (by omega) (by omega)]
    rw [take_rw (by unfold mulP; rw [List.length_map]; exact hk), mulP_rw hk]
    rfl
  · unfold D_impl_MultipleOf_s0
    dsimp only
    rw [bif_df (by omega), List.take_of_length_le (by unfold mulP; rw [List.length_map]; omega)]
theorem sMul_loop {fu : Nat} (hf : Big fu) {m t : Int} (hm : 3 ≤ m ∧ m ≤ 13) (ht : 0 ≤ t ∧ t < m) {ps : List (List Int)} (hb : ps.length ≤ 1000) (hok : ∀ p ∈ ps, okS m p = true) :
    loopF (D_spec_l03Multiple_s0 fu m ps t) fu ([], 0) = some (mulP m t ps) := by
  unfold Big at hf
  rw [loop_seq (fun k => ((mulP m t ps).take k, ((k : Nat) : Int))) ps.length (mulP m t ps) (by omega) ?_ ?_ (s := (([] : List (List Int)), (0 : Int))) (by simp)]
  · intro k hk
    obtain ⟨o0, o1, o2, _⟩ := okS_of (hok _ (rw_mem hk))
    have s0 := mul_small hm ht o1
    have s1 := mul_small hm ht o2
    unfold D_spec_l03Multiple_s0
    dsimp only
    rw [bif_dt (by omega), chk_inR (by omega) (by omega), Int.toNat_natCast, o0, chk_inR (by omega) (by omega), chk_in64 (by omega) (by omega), chk_ne (by omega), chk_inR (by omega) (by omega), chk_inR (by omega) (by omega), chk_in64 (by omega) (by omega), chk_ne (by omega), chk_le (by rw [List.length_take]; omega), chk_in64 (by omega) (by omega)]
    rw [take_rw (by unfold mulP; rw [List.length_map]; exact hk), mulP_rw hk]
    rfl
  · unfold D_spec_l03Multiple_s0
    dsimp only
    rw [bif_df (by omega), List.take_of_length_le (by unfold mulP; rw [List.length_map]; omega)]
theorem sortedPairs_D {fu : Nat} (hf : Big fu) {l : List (List Int)} (hl : ∀ p ∈ l, p.length = 2) (hb : l.length ≤ 12) (hd : Df (l.map nrm)) : D_impl_sortedPairs fu l = some (srtB ltc (l.map nrm)) := by
  have hf' := hf
  unfold Big at hf
  unfold D_impl_sortedPairs
  have hn : ∀ k, k < l.length → rw_ (l.map nrm) k = nrm (rw_ l k) := fun k hk => by
    simp [rw_, List.getD_eq_getElem?_getD, List.getElem?_map, List.getElem?_eq_getElem hk]
  rw [loop_seq (fun k => ((l.map nrm).take k, ((k : Nat) : Int))) l.length (l.map nrm) (by omega) ?_ ?_ (s := (([] : List (List Int)), (0 : Int))) (by simp)]
  · rw [Option.bind_some, SortFunc_D hf' hd (by rw [List.length_map]; exact hb)]; rfl
  · intro k hk
    have hr : (rw_ l k).length = 2 := hl _ (rw_mem hk)
    unfold D_impl_sortedPairs_s0
    dsimp only
    rw [bif_dt (by omega), chk_inR (by omega) (by omega), Int.toNat_natCast, hr, chk_inR (by omega) (by omega), chk_inR (by omega) (by omega), chk_inR (by omega) (by omega), chk_inR (by omega) (by omega), chk_le (by rw [List.length_take]; omega), chk_in64 (by omega) (by omega), take_rw (by rw [List.length_map]; exact hk), hn k hk]
    rfl
  · unfold D_impl_sortedPairs_s0
    dsimp only
    rw [bif_df (by omega), List.take_of_length_le (by rw [List.length_map]; omega)]
theorem ins2_has {a b : Nat → Int} : ∀ {j i : Nat}, i < j → a i ∈ ins2 a b j ∧ b i ∈ ins2 a b j
  | 0, i, h => absurd h (by omega)
  | j + 1, i, h => by
    show a i ∈ addk (addk (ins2 a b j) (a j)) (b j) ∧ b i ∈ addk (addk (ins2 a b j) (a j)) (b j)
    rw [addk_mem, addk_mem, addk_mem, addk_mem]
    by_cases e : i = j
    · subst e; exact ⟨.inl (.inr rfl), .inr rfl⟩
    · have := ins2_has (a := a) (b := b) (show i < j by omega)
      exact ⟨.inl (.inl this.1), .inl (.inl this.2)⟩
theorem st_apart {m : Int} {ps : List (List Int)} (h : isSt m ps = true) : 2 * (ps.length : Int) = m - 1 ∧ ∀ i j, i < j → j < ps.length → sx ps j ≠ sx ps i ∧ sx ps j ≠ sy ps i ∧ sy ps j ≠ sx ps i ∧ sy ps j ≠ sy ps i := by
  unfold isSt at h
  simp only [Bool.and_eq_true, decide_eq_true_eq] at h
  obtain ⟨_, h1, h2, _⟩ := h
  refine ⟨h1, fun i j hij hj => ?_⟩
  have k := ((ins2_len (sx ps) (sy ps) ps.length).2.1 (by omega)) j hj
  have hi := ins2_has (a := sx ps) (b := sy ps) hij
  exact ⟨fun e => k.1 (e ▸ hi.1), fun e => k.1 (e ▸ hi.2), fun e => k.2.1 (e ▸ hi.1), fun e => k.2.1 (e ▸ hi.2)⟩
theorem nrm_first (u v : Int) : rd (nrm [u, v]) 0 = u ∨ rd (nrm [u, v]) 0 = v := by
  show (if v < u then v else u) = u ∨ (if v < u then v else u) = v
  split
  · exact .inr rfl
  · exact .inl rfl
theorem mul_Df {m t : Int} (hm : isMod m = true) (ht : 0 ≤ t ∧ t < m) {g : Int} (hg : gcv t m = some g) (h1 : g = 1) {ps : List (List Int)} (hok : ∀ p ∈ ps, okS m p = true) (hs : isSt m ps = true) : Df ((mulP m t ps).map nrm) := by
  obtain ⟨g', hg', hinj⟩ := fin_gcv hm ht.1 ht.2
  obtain rfl : g = g' := by rw [hg] at hg'; exact Option.some.inj hg'
  have inj := hinj h1
  have hlen : ((mulP m t ps).map nrm).length = ps.length := by unfold mulP; simp
  refine ⟨fun p hp => ?_, fun i j hij hj => ?_⟩
  · obtain ⟨q, _, rfl⟩ := List.mem_map.1 hp; rfl
  · rw [hlen] at hj
    have hrw : ∀ k, k < ps.length → rw_ ((mulP m t ps).map nrm) k = nrm [(sx ps k * t).tmod m, (sy ps k * t).tmod m] := fun k hk => by
      have : rw_ ((mulP m t ps).map nrm) k = nrm (rw_ (mulP m t ps) k) := by
        have hk' : k < (mulP m t ps).length := by unfold mulP; simpa using hk
        simp [rw_, List.getD_eq_getElem?_getD, List.getElem?_map, List.getElem?_eq_getElem hk']
      rw [this, mulP_rw hk]; rfl
    rw [hrw i (by omega), hrw j hj]
    obtain ⟨a1, a2, a3, a4⟩ := (st_apart hs).2 i j hij hj
    have rng : ∀ k, k < ps.length → (1 ≤ sx ps k ∧ sx ps k ≤ m - 1) ∧ (1 ≤ sy ps k ∧ sy ps k ≤ m - 1) := fun k hk => by
      obtain ⟨_, o1, o2, _⟩ := okS_of (hok _ (rw_mem hk)); exact ⟨o1, o2⟩
    have ri := rng i (by omega)
    have rj := rng j hj
    intro e
    rcases nrm_first ((sx ps i * t).tmod m) ((sy ps i * t).tmod m) with ei | ei <;> rcases nrm_first ((sx ps j * t).tmod m) ((sy ps j * t).tmod m) with ej | ej <;> rw [ei, ej] at e
    · exact a1 (inj _ _ (by omega) (by omega) (by omega) (by omega) e).symm
    · exact a3 (inj _ _ (by omega) (by omega) (by omega) (by omega) e).symm
    · exact a2 (inj _ _ (by omega) (by omega) (by omega) (by omega) e).symm
    · exact a4 (inj _ _ (by omega) (by omega) (by omega) (by omega) e).symm
def tOk (m t : Int) : Bool := inB t 1 (m - 1) && decide (gcv t m = some 1)
def mulC (m t : Int) (ps : List (List Int)) : Int := if isMod m && ps.all (okS m) then if tOk m t then if isSt m ps then 0 else 1 else 2 else 2
def mulOf (m t : Int) (ps : List (List Int)) : List (List Int) × Int := if mulC m t ps = 0 then (srtB ltc ((mulP m t ps).map nrm), 0) else ([], mulC m t ps)
theorem mulC_of {m t : Int} {ps : List (List Int)} (h : mulC m t ps = 0) : isMod m = true ∧ (∀ p ∈ ps, okS m p = true) ∧ tOk m t = true ∧ isSt m ps = true := by
  unfold mulC at h
  by_cases h1 : (isMod m && ps.all (okS m)) = true
  · rw [if_pos h1] at h
    by_cases h2 : tOk m t = true
    · rw [if_pos h2] at h
      by_cases h3 : isSt m ps = true
      · simp only [Bool.and_eq_true, List.all_eq_true] at h1
        exact ⟨h1.1, h1.2, h2, h3⟩
      · rw [if_neg h3] at h; omega
    · rw [if_neg h2] at h; omega
  · rw [if_neg h1] at h; omega
theorem mul_len {m : Int} {ps : List (List Int)} (hm : isMod m = true) (hs : isSt m ps = true) : ps.length ≤ 6 := by
  have := isMod_of hm
  have := (st_apart hs).1
  omega
theorem iMul_D {fu : Nat} (hf : Big fu) (m t : Int) {ps : List (List Int)} (hl : ps.length ≤ 4294967296) : D_impl_MultipleOf fu m ps t = some (mulOf m t ps) := by
  have hc : D_impl_starterCode fu m (fun _ => D_impl_MultipleOf_1 fu t m) [ps] = some (mulC m t ps) := by
    rw [starterCodeL_D hf m (pss := [ps]) (by simp) (by simpa using hl) (b := tOk m t) ?_]
    · simp only [List.all_cons, List.all_nil, Bool.and_true]; rfl
    · intro hm _
      have hn := isMod_of hm
      unfold D_impl_MultipleOf_1 D_impl_between tOk
      rw [chk_in64 (by omega) (by omega), Option.bind_some]
      by_cases hb : inB t 1 (m - 1) = true
      · have hb' := inB_of hb
        obtain ⟨g, hg, _⟩ := fin_gcv hm (t := t) (by omega) (by omega)
        have := (divisor_D hf hg).1
        show (Option.bind (bif inB t 1 (m - 1) then _ else _) _) = _
        rw [hb, bif_true, this, Option.bind_some, Option.bind_some, hg, Bool.true_and]
        by_cases e : g = 1
        · subst e; rfl
        · rw [decide_eq_false e, decide_eq_false (fun h => e (Option.some.inj h))]
      · rw [Bool.not_eq_true] at hb
        show (Option.bind (bif inB t 1 (m - 1) then _ else _) _) = _
        rw [hb]; rfl
  unfold D_impl_MultipleOf
  rw [hc, Option.bind_some]
  unfold mulOf
  by_cases h : mulC m t ps = 0
  · obtain ⟨hm, hok, ht, hs⟩ := mulC_of h
    have hn := isMod_of hm
    unfold tOk at ht
    simp only [Bool.and_eq_true, decide_eq_true_eq] at ht
    have hb := inB_of ht.1
    have hlen := mul_len hm hs
    rw [bif_nt h, if_pos h, iMul_loop hf ⟨hn.1, hn.2.1⟩ (by omega) (by omega) hok, Option.bind_some, sortedPairs_D hf (fun p hp => by obtain ⟨q, _, rfl⟩ := List.mem_map.1 hp; rfl) (by unfold mulP; rw [List.length_map]; omega) (mul_Df hm (by omega) ht.2 rfl hok hs)]
    rfl
  · rw [bif_nf h, if_neg h]
theorem mulOf_small {m t : Int} {ps : List (List Int)} : (mulOf m t ps).1.length ≤ 6 ∧ ∀ p ∈ (mulOf m t ps).1, p.length = 2 := by
  unfold mulOf
  by_cases h : mulC m t ps = 0
  · obtain ⟨hm, hok, ht, hs⟩ := mulC_of h
    rw [if_pos h]
    have := mul_len hm hs
    refine ⟨by show (srtB _ _).length ≤ 6; rw [srtB_len, List.length_map]; unfold mulP; rw [List.length_map]; exact this, fun p hp => ?_⟩
    obtain ⟨q, _, rfl⟩ := List.mem_map.1 (srtB_mem.1 hp); rfl
  · rw [if_neg h]; exact ⟨by simp, fun p hp => absurd hp List.not_mem_nil⟩
end Go.Proofs.YtdafmafigcljkaaGreat
