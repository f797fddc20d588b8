import Derived.Test.YtgageobfalmhpaaP3
import Derived.Test.YtgageobfalmhpaaAm15
namespace Go.Proofs.Ytgageobfalmhpaa
open Go Go.RowKit Am
set_option linter.unusedVariables false
set_option linter.unusedSimpArgs false
theorem rcode_no {n : Int} {rs : List (List Int)} (h : inB n 2 14 = false) : rcode n rs = 2 := by unfold rcode; rw [h]; rfl
theorem rcode_at {n : Int} {rs : List (List Int)} {k : Nat} (hk : k < rs.length) (h : isRnd n (rw_ rs k) = false) : rcode n rs = 2 := by
  unfold rcode
  rw [if_neg]
  intro h2
  rw [Bool.and_eq_true, List.all_eq_true] at h2
  rw [h2.2 _ (rw_mem hk)] at h; cases h
theorem rcode_all {n : Int} {rs : List (List Int)} (h : inB n 2 14 = true) (ha : ∀ j, j < rs.length → isRnd n (rw_ rs j) = true) : rcode n rs = 0 := by
  unfold rcode
  rw [if_pos]
  rw [h, Bool.true_and, List.all_eq_true]
  intro r hr
  obtain ⟨k, hk, rfl⟩ := rw_of hr
  exact ha k hk
theorem rcode2 (n : Int) (r q : List Int) : rcode n [r, q] = if isRnd n r = true ∧ isRnd n q = true then 0 else 2 := by
  unfold rcode
  by_cases h1 : isRnd n r = true <;> by_cases h2 : isRnd n q = true <;> simp [h1, h2]
  unfold isRnd at h1
  simp only [Bool.and_eq_true] at h1
  exact h1.1
theorem rcode_ok {n : Int} {r q : List Int} {a : Int} (h : chOk n r q a = true) : rcode n [r, q] = 0 := by
  unfold chOk at h
  simp only [Bool.and_eq_true] at h
  rw [rcode2, if_pos h.1]
theorem chOk_two {n : Int} {r q : List Int} {a : Int} (h : chOk n r q a = false) : (bif decide (rcode n [r, q] = 0) && !inB a 0 (n - 1) then 2 else rcode n [r, q]) = 2 := by
  unfold chOk at h
  rw [rcode2]
  by_cases h1 : isRnd n r = true ∧ isRnd n q = true
  · rw [if_pos h1]
    rw [h1.1, h1.2, Bool.true_and, Bool.true_and] at h
    rw [h]; rfl
  · rw [if_neg h1]; rfl
theorem rcode_n {n : Int} {r q : List Int} (h : rcode n [r, q] = 0) : 2 ≤ n ∧ n ≤ 14 := by
  rw [rcode2] at h
  split at h
  · rename_i h1
    have h2 := h1.1
    unfold isRnd at h2
    rw [Bool.and_eq_true] at h2
    exact inB_of h2.1
  · cases h
def SlIs (H : AHeap) (p : Option Addr) (n : Nat) (xs : List Int) : Prop := xs.length = n ∧ (n = 0 ∨ ∃ i ro, p = some ⟨i, 0, none⟩ ∧ hget H i = .row ro (ints xs))
theorem SlIs.some {H : AHeap} {p : Option Addr} {n : Nat} {xs : List Int} (h : SlIs H p n xs) (hn : 0 < n) : ∃ i ro, p = Option.some ⟨i, 0, none⟩ ∧ hget H i = .row ro (ints xs) := h.2.resolve_left (by omega)
theorem SlIs.nil (H : AHeap) (p : Option Addr) : SlIs H p 0 [] := ⟨rfl, .inl rfl⟩
theorem SlIs.mk {H : AHeap} {i n : Nat} {ro : Bool} {xs : List Int} (h : hget H i = .row ro (ints xs)) (hn : xs.length = n) : SlIs H (Option.some ⟨i, 0, none⟩) n xs := ⟨hn, .inr ⟨i, ro, rfl, h⟩⟩
theorem set_self {H : AHeap} {i : Nat} {ro : Bool} {cs : List Value} (h : hget H i = .row ro cs) : H.set i (.row ro cs) = H := by
  have hi := row_lt h
  apply List.ext_getElem (by simp)
  intro j h1 h2
  rw [List.getElem_set]
  split
  · rename_i e; subst e
    rw [← h]; simp [hget, List.getD_eq_getElem?_getD, List.getElem?_eq_getElem h2]
  · rfl
theorem stp_of {r q : List Int} {a : Int} {k : Nat} {b : Bool} (h : (decide (rd (rw_ [r, q] (k % 2)) (rd (chl r q a k) k).toNat = a) || decide (rd (rw_ [r, q] (k % 2)) (rd (chl r q a k) k).toNat = rd (chl r q a k) k)) = b) : stp r q a k = b := by
  rw [chl_last] at h; exact h
theorem chOk_n {n : Int} {r q : List Int} {a : Int} (h : chOk n r q a = true) : n ≤ 14 ∧ 2 ≤ n := by
  unfold chOk isRnd at h
  simp only [Bool.and_eq_true] at h
  have := inB_of h.1.1.1; exact ⟨this.2, this.1⟩
theorem chOk_a {n : Int} {r q : List Int} {a : Int} (h : chOk n r q a = true) : inB a 0 (n - 1) = true := by
  unfold chOk at h
  simp only [Bool.and_eq_true] at h
  exact h.2

theorem l02Rounds_ok (H : AHeap) (n : Int) (i c : Nat) (ro : Bool) (rs : List (List Int)) (hg : hget H i = .row ro (ints rs.flatten)) (hA : All 14 rs) (hB : rs.length ≤ 9223372036854775807) : ACall Try.prog 36 ([.int .i64 (n), .slice (some ⟨i, 0, none⟩) (rs.length) (c)]) H (.int .i64 (rcode n rs)) H := by
  refine ACall.body (N := 22) [(0, .int .i64 (n)), (1, .slice (some ⟨i, 0, none⟩) (rs.length) (c))] Try.func36 rfl rfl rfl rfl ?_
  refine AWp.seq ?_
  refine AWp.region ?_
  refine AOps.p rfl (p_assign rfl) ?_
  refine AOps.nil ?_
  refine AWp.seq ?_
  refine AWp.seq ?_
  refine AWp.region ?_
  refine AOps.p rfl (p_move rfl) ?_
  refine AOps.c rfl (o_call (vs := [.int .i64 (n), .int .i64 (2), .int .i64 (14)]) rfl Try.call34 (l01In_ok _ _ _ _)) ?_
  refine AOps.p rfl (p_not rfl) ?_
  refine AOps.nil ?_
  refine AWp.cond rfl (fun c1 => ?_) (fun c1 => ?_)
  · have d1 := c1
    try simp only [inB, Bool.and_eq_true, Bool.or_eq_true, Bool.and_eq_false_iff, Bool.or_eq_false_iff, Bool.not_eq_true', Bool.not_eq_false', decide_eq_true_eq, decide_eq_false_iff_not, Int.not_le, Int.not_lt] at d1
    refine AWp.seq ?_
    refine AWp.region ?_
    refine AOps.p rfl (p_assign rfl) ?_
    refine AOps.nil ?_
    refine AWp.ret ?_
    refine ends (.inr rfl) (res1 rfl (rv_tmp rfl)) ?_ (Fin.refl _ _ _)
    -- return 1: .int .i64 (2)
    exact int_eq (rcode_no (by simpa using c1)).symm
  · have d1 := c1
    try simp only [inB, Bool.and_eq_true, Bool.or_eq_true, Bool.and_eq_false_iff, Bool.or_eq_false_iff, Bool.not_eq_true', Bool.not_eq_false', decide_eq_true_eq, decide_eq_false_iff_not, Int.not_le, Int.not_lt] at d1
    refine AWp.skip ?_
    refine AWp.seq ?_
    refine AWp.seq ?_
    refine AWp.region ?_
    refine AOps.p rfl (p_assign rfl) ?_
    refine AOps.nil ?_
    refine AWp.block ?_
    refine AWp.round (α := Nat) (fun k => [(0, .int .i64 (n)), (1, .slice (some ⟨i, 0, none⟩) (rs.length) (c)), (4, .int .i64 (0)), (5, .int .i64 (((k : Nat) : Int))), (8, .bool (!(inB n 2 14)))]) (fun k => H) (fun k => k ≤ rs.length ∧ ∀ j, j < k → isRnd n (rw_ rs j) = true) (fun k => rs.length - k) 0 ⟨by omega, fun j h => absurd h (Nat.not_lt_zero j)⟩ (Sub.cons' rfl rfl (Sub.cons' rfl rfl (Sub.cons' rfl rfl (Sub.cons' rfl rfl (Sub.cons' rfl rfl (Sub.nil _)))))) rfl ?_
    intro k hInv0
    obtain ⟨hk, hI⟩ := hInv0
    refine AWp.sub (t' := [(0, .int .i64 (n)), (1, .slice (some ⟨i, 0, none⟩) (rs.length) (c)), (4, .int .i64 (0)), (5, .int .i64 (((k : Nat) : Int))), (8, .bool (!(inB n 2 14)))]) (Sub.refl _) ?_
    refine AWp.heap (H' := H) rfl ?_
    refine AWp.seq ?_
    refine AWp.seq ?_
    refine AWp.region ?_
    refine AOps.p rfl (p_move rfl) ?_
    refine AOps.p rfl (p_move rfl) ?_
    refine AOps.p rfl (p_len_slice rfl Try.underlying45) ?_
    refine AOps.p rfl (p_lss rfl rfl) ?_
    refine AOps.nil ?_
    refine AWp.cond rfl (fun c2 => ?_) (fun c2 => ?_)
    · have d2 := c2
      try simp only [inB, Bool.and_eq_true, Bool.or_eq_true, Bool.and_eq_false_iff, Bool.or_eq_false_iff, Bool.not_eq_true', Bool.not_eq_false', decide_eq_true_eq, decide_eq_false_iff_not, Int.not_le, Int.not_lt] at d2
      refine AWp.skip ?_
      refine AWp.seq ?_
      refine AWp.block ?_
      refine AWp.seq ?_
      refine AWp.region ?_
      refine AOps.p rfl (p_move rfl) ?_
      refine AOps.p rfl (p_move rfl) ?_
      refine AOps.p rfl (p_move rfl) ?_
      refine AOps.p rfl (s_indexSl (q := k * 14) Try.underlying45 Try.sizeOf25 rfl rfl (by omega) (by omega) (by omega)) ?_
      refine AOps.c rfl (s_loadN (vs := ints (rw_ rs k)) Try.isAgg25 Try.sizeOf25 rfl (by rw [ints_length]; exact rw_len hA (by omega)) (row_part (hg) (flat_cells hA (by omega)))) ?_
      refine AOps.c rfl (o_call (vs := [.int .i64 (n), .agg (ints (rw_ rs k)).toArray]) rfl Try.call29 (l01Round_ok _ _ _ (rw_len hA (by omega)))) ?_
      refine AOps.p rfl (p_not rfl) ?_
      refine AOps.nil ?_
      refine AWp.cond rfl (fun c3 => ?_) (fun c3 => ?_)
      · have d3 := c3
        try simp only [inB, Bool.and_eq_true, Bool.or_eq_true, Bool.and_eq_false_iff, Bool.or_eq_false_iff, Bool.not_eq_true', Bool.not_eq_false', decide_eq_true_eq, decide_eq_false_iff_not, Int.not_le, Int.not_lt] at d3
        refine AWp.seq ?_
        refine AWp.region ?_
        refine AOps.p rfl (p_assign rfl) ?_
        refine AOps.nil ?_
        refine AWp.ret ?_
        refine ends (.inr rfl) (res1 rfl (rv_tmp rfl)) ?_ (Fin.refl _ _ _)
        -- return 2: .int .i64 (2)
        exact int_eq (rcode_at (k := k) (by omega) (by simpa using c3)).symm
      · have d3 := c3
        try simp only [inB, Bool.and_eq_true, Bool.or_eq_true, Bool.and_eq_false_iff, Bool.or_eq_false_iff, Bool.not_eq_true', Bool.not_eq_false', decide_eq_true_eq, decide_eq_false_iff_not, Int.not_le, Int.not_lt] at d3
        refine AWp.skip ?_
        refine AWp.region ?_
        refine AOps.p rfl (p_move rfl) ?_
        refine AOps.p rfl (p_add rfl rfl (wr64 (by omega) (by omega))) ?_
        refine AOps.p rfl (p_assign rfl) ?_
        refine AOps.nil ?_
        exact ⟨k + 1, ⟨by omega, step_ hI (by simpa using c3)⟩, by omega, Sub.cons' rfl rfl (Sub.cons' rfl rfl (Sub.cons' rfl rfl (Sub.cons' rfl (by first | rfl | (exact int_eq (by omega))) (Sub.cons' rfl rfl (Sub.nil _))))), rfl⟩
    · have d2 := c2
      try simp only [inB, Bool.and_eq_true, Bool.or_eq_true, Bool.and_eq_false_iff, Bool.or_eq_false_iff, Bool.not_eq_true', Bool.not_eq_false', decide_eq_true_eq, decide_eq_false_iff_not, Int.not_le, Int.not_lt] at d2
      refine AWp.exit ?_
      refine AWp.seq ?_
      refine AWp.region ?_
      refine AOps.p rfl (p_assign rfl) ?_
      refine AOps.nil ?_
      refine AWp.ret ?_
      refine ends (.inr rfl) (res1 rfl (rv_tmp rfl)) ?_ (Fin.refl _ _ _)
      -- return 3: .int .i64 (0)
      exact int_eq (rcode_all (by simpa using c1) (fun j hj => hI j (by omega))).symm

theorem twoCode_ok (H : AHeap) (n : Int) (r q : List Int) (hr : r.length = 14) (hq : q.length = 14) : ACall Try.prog 37 ([.int .i64 (n), .agg (ints r).toArray, .agg (ints q).toArray]) H (.int .i64 (rcode n [r, q])) H := by
  refine ACall.body (N := 17) [(0, .int .i64 (n)), (1, .agg (ints r).toArray), (2, .agg (ints q).toArray)] Try.func37 rfl rfl rfl rfl ?_
  refine AWp.seq ?_
  refine AWp.region ?_
  refine AOps.c rfl (s_box (i := H.length + 0) (cs := ints r) rfl rfl rfl rfl) ?_
  refine AOps.c rfl (s_box (i := H.length + 1) (cs := ints q) rfl (by exact List.length_append) rfl (by exact List.append_assoc _ _ _)) ?_
  refine AOps.p rfl (p_assign rfl) ?_
  refine AOps.nil ?_
  refine AWp.seq ?_
  refine AWp.cut (fun t' H' => H ++ [AObj.row false (ints r), AObj.row false (ints q)] = H' ∧ Sub [(0, .int .i64 (n)), (1, .agg (ints r).toArray), (2, .agg (ints q).toArray), (4, .pointer (some ⟨H.length + 0, 0, none⟩)), (5, .pointer (some ⟨H.length + 1, 0, none⟩)), (6, .int .i64 (0)), (16, .bool ((!(isRnd n r)) || (!(isRnd n q))))] t') ?_ ?_
  · refine AWp.region ?_
    refine AOps.p rfl (p_move rfl) ?_
    refine AOps.c rfl (s_loadN (vs := ints r) Try.isAgg25 Try.sizeOf25 rfl (by rw [ints_length]; first | rfl | omega | (simp only [List.length_set, List.length_replicate]; omega)) (row_cells (own_row rfl))) ?_
    refine AOps.c rfl (o_call (vs := [.int .i64 (n), .agg (ints r).toArray]) rfl Try.call11 (IsRound_ok _ _ _ (by assumption))) ?_
    refine AOps.p rfl (p_not rfl) ?_
    refine AOps.p rfl (p_move rfl) ?_
    refine AOps.cases (d := 11) rfl (fun c1 => ?_) (fun c1 => ?_)
    · have d1 := c1
      try simp only [inB, Bool.and_eq_true, Bool.or_eq_true, Bool.and_eq_false_iff, Bool.or_eq_false_iff, Bool.not_eq_true', Bool.not_eq_false', decide_eq_true_eq, decide_eq_false_iff_not, Int.not_le, Int.not_lt] at d1
      refine AOps.gn rfl rfl rfl ?_
      refine AOps.gn rfl rfl rfl ?_
      refine AOps.gn rfl rfl rfl ?_
      refine AOps.gn rfl rfl rfl ?_
      refine AOps.p rfl (p_pickT rfl rfl) ?_
      refine AOps.nil ?_
      exact ⟨rfl, Sub.cons' rfl rfl (Sub.cons' rfl rfl (Sub.cons' rfl rfl (Sub.cons' rfl rfl (Sub.cons' rfl rfl (Sub.cons' rfl rfl (Sub.cons' rfl (bool_eq (by simp only [c1, Bool.true_and, Bool.false_and, Bool.and_true, Bool.and_false, Bool.true_or, Bool.false_or, Bool.or_true, Bool.or_false, Bool.not_true, Bool.not_false, cond_true, cond_false])) (Sub.nil _)))))))⟩
    · have d1 := c1
      try simp only [inB, Bool.and_eq_true, Bool.or_eq_true, Bool.and_eq_false_iff, Bool.or_eq_false_iff, Bool.not_eq_true', Bool.not_eq_false', decide_eq_true_eq, decide_eq_false_iff_not, Int.not_le, Int.not_lt] at d1
      refine AOps.gp rfl rfl rfl (p_move rfl) ?_
      refine AOps.gc rfl rfl rfl (s_loadN (vs := ints q) Try.isAgg25 Try.sizeOf25 rfl (by rw [ints_length]; first | rfl | omega | (simp only [List.length_set, List.length_replicate]; omega)) (row_cells (own_row rfl))) ?_
      refine AOps.gc rfl rfl rfl (o_call (vs := [.int .i64 (n), .agg (ints q).toArray]) rfl Try.call11 (IsRound_ok _ _ _ (by assumption))) ?_
      refine AOps.gp rfl rfl rfl (p_not rfl) ?_
      refine AOps.p rfl (p_pickF rfl rfl) ?_
      refine AOps.nil ?_
      exact ⟨rfl, Sub.cons' rfl rfl (Sub.cons' rfl rfl (Sub.cons' rfl rfl (Sub.cons' rfl rfl (Sub.cons' rfl rfl (Sub.cons' rfl rfl (Sub.cons' rfl (bool_eq (by simp only [c1, Bool.true_and, Bool.false_and, Bool.and_true, Bool.and_false, Bool.true_or, Bool.false_or, Bool.or_true, Bool.or_false, Bool.not_true, Bool.not_false, cond_true, cond_false])) (Sub.nil _)))))))⟩
  · rintro t' _ ⟨rfl, hsub⟩
    refine AWp.sub hsub ?_
    refine AWp.cond rfl (fun c2 => ?_) (fun c2 => ?_)
    · have d2 := c2
      try simp only [inB, Bool.and_eq_true, Bool.or_eq_true, Bool.and_eq_false_iff, Bool.or_eq_false_iff, Bool.not_eq_true', Bool.not_eq_false', decide_eq_true_eq, decide_eq_false_iff_not, Int.not_le, Int.not_lt] at d2
      refine AWp.seq ?_
      refine AWp.region ?_
      refine AOps.p rfl (p_assign rfl) ?_
      refine AOps.nil ?_
      refine AWp.ret ?_
      refine ends (.inr rfl) (res1 rfl (rv_tmp rfl)) ?_ (Fin.dropOwn (flatB_ok rfl))
      -- return 1: .int .i64 (2)
      exact int_eq (by rw [rcode2, if_neg]; intro h; simp [h] at c2)
    · have d2 := c2
      try simp only [inB, Bool.and_eq_true, Bool.or_eq_true, Bool.and_eq_false_iff, Bool.or_eq_false_iff, Bool.not_eq_true', Bool.not_eq_false', decide_eq_true_eq, decide_eq_false_iff_not, Int.not_le, Int.not_lt] at d2
      refine AWp.skip ?_
      refine AWp.seq ?_
      refine AWp.region ?_
      refine AOps.p rfl (p_assign rfl) ?_
      refine AOps.nil ?_
      refine AWp.ret ?_
      refine ends (.inr rfl) (res1 rfl (rv_tmp rfl)) ?_ (Fin.dropOwn (flatB_ok rfl))
      -- return 2: .int .i64 (0)
      exact int_eq (by rw [rcode2, if_pos]; simpa using c2)

theorem sChain_ok (H : AHeap) (n : Int) (r q : List Int) (a : Int) (hr : r.length = 14) (hq : q.length = 14) (hok : chOk n r q a = true) {i' : Nat} {H' : AHeap} (hi : H.length = i') (hH : H ++ [AObj.row false (ints (chl r q a (chK r q a)))] = H') : ACall Try.prog 19 ([.int .i64 (n), .agg (ints r).toArray, .agg (ints q).toArray, .int .i64 (a)]) H (.tuple #[.slice (some ⟨i', 0, none⟩) (chK r q a + 1) (chC r q a), .int .i64 0]) H' := by
  subst hi hH
  have hc := rcode_ok hok
  have hn := chOk_n hok
  obtain ⟨hs1, hs2, hs3⟩ := chK_spec hok
  refine ACall.body (N := 65) [(0, .int .i64 (n)), (1, .agg (ints r).toArray), (2, .agg (ints q).toArray), (3, .int .i64 (a))] Try.func19 rfl rfl rfl rfl ?_
  refine AWp.seq ?_
  refine AWp.region ?_
  refine AOps.c rfl (s_box (i := H.length + 0) (cs := ints r) rfl rfl rfl rfl) ?_
  refine AOps.c rfl (s_box (i := H.length + 1) (cs := ints q) rfl (by exact List.length_append) rfl (by exact List.append_assoc _ _ _)) ?_
  refine AOps.p rfl (p_assign rfl) ?_
  refine AOps.p rfl (p_assign rfl) ?_
  refine AOps.nil ?_
  refine AWp.seq ?_
  refine AWp.region ?_
  refine AOps.p rfl (p_move rfl) ?_
  refine AOps.c rfl (s_loadN (vs := ints r) Try.isAgg25 Try.sizeOf25 rfl (by rw [ints_length]; first | rfl | omega | (simp only [List.length_set, List.length_replicate]; omega)) (row_cells (own_row rfl))) ?_
  refine AOps.c rfl (s_loadN (vs := ints q) Try.isAgg25 Try.sizeOf25 rfl (by rw [ints_length]; first | rfl | omega | (simp only [List.length_set, List.length_replicate]; omega)) (row_cells (own_row rfl))) ?_
  refine AOps.c rfl (s_build2 (i := H.length + 2) (zr := List.replicate 14 0) Try.underlying45 Try.sizeOf25 Try.zeroValue25 rfl rfl (by decide) (by decide) rfl rfl (by first | assumption | exact rw_len (by assumption) (by omega)) (by first | assumption | exact rw_len (by assumption) (by omega)) (by exact List.length_append) (by exact List.append_assoc _ _ _)) ?_
  refine AOps.c rfl (o_call (vs := [.int .i64 (n), .slice (some ⟨H.length + 2, 0, none⟩) (2) (2)]) rfl Try.call36 (l02Rounds_ok _ _ _ _ _ _ (own_row rfl) (all_two (by first | assumption | exact rw_len (by assumption) (by omega)) (by first | assumption | exact rw_len (by assumption) (by omega))) (by simp))) ?_
  refine AOps.p rfl (p_assign rfl) ?_
  refine AOps.nil ?_
  refine AWp.seq ?_
  refine AWp.cut (fun t' H' => H ++ [AObj.row false (ints r), AObj.row false (ints q), AObj.row false (ints ([r, q]).flatten)] = H' ∧ Sub [(0, .int .i64 (n)), (1, .agg (ints r).toArray), (2, .agg (ints q).toArray), (3, .int .i64 (a)), (5, .pointer (some ⟨H.length + 0, 0, none⟩)), (6, .pointer (some ⟨H.length + 1, 0, none⟩)), (8, .slice none 0 0), (9, .int .i64 (0)), (10, .int .i64 (rcode n ([r, q]))), (29, .bool ((decide (rcode n ([r, q]) = 0)) && (!(inB a 0 (n - 1)))))] t') ?_ ?_
  · refine AWp.region ?_
    refine AOps.p rfl (p_move rfl) ?_
    refine AOps.p rfl (p_eql rfl rfl) ?_
    refine AOps.p rfl (p_move rfl) ?_
    refine AOps.cases (d := 23) rfl (fun c1 => ?_) (fun c1 => ?_)
    · have d1 := c1
      try simp only [inB, Bool.and_eq_true, Bool.or_eq_true, Bool.and_eq_false_iff, Bool.or_eq_false_iff, Bool.not_eq_true', Bool.not_eq_false', decide_eq_true_eq, decide_eq_false_iff_not, Int.not_le, Int.not_lt] at d1
      refine AOps.gp rfl rfl rfl (p_move rfl) ?_
      refine AOps.gp rfl rfl rfl (p_move rfl) ?_
      refine AOps.gp rfl rfl rfl (p_sub rfl rfl (wr64 (by omega) (by omega))) ?_
      refine AOps.gc rfl rfl rfl (o_call (vs := [.int .i64 (a), .int .i64 (0), .int .i64 (n - 1)]) rfl Try.call34 (l01In_ok _ _ _ _)) ?_
      refine AOps.gp rfl rfl rfl (p_not rfl) ?_
      refine AOps.p rfl (p_pickT rfl rfl) ?_
      refine AOps.nil ?_
      exact ⟨rfl, Sub.cons' rfl rfl (Sub.cons' rfl rfl (Sub.cons' rfl rfl (Sub.cons' rfl rfl (Sub.cons' rfl rfl (Sub.cons' rfl rfl (Sub.cons' rfl rfl (Sub.cons' rfl rfl (Sub.cons' rfl rfl (Sub.cons' rfl (bool_eq (by simp only [c1, Bool.true_and, Bool.false_and, Bool.and_true, Bool.and_false, Bool.true_or, Bool.false_or, Bool.or_true, Bool.or_false, Bool.not_true, Bool.not_false, cond_true, cond_false])) (Sub.nil _))))))))))⟩
    · have d1 := c1
      try simp only [inB, Bool.and_eq_true, Bool.or_eq_true, Bool.and_eq_false_iff, Bool.or_eq_false_iff, Bool.not_eq_true', Bool.not_eq_false', decide_eq_true_eq, decide_eq_false_iff_not, Int.not_le, Int.not_lt] at d1
      refine AOps.gn rfl rfl rfl ?_
      refine AOps.gn rfl rfl rfl ?_
      refine AOps.gn rfl rfl rfl ?_
      refine AOps.gn rfl rfl rfl ?_
      refine AOps.gn rfl rfl rfl ?_
      refine AOps.p rfl (p_pickF rfl rfl) ?_
      refine AOps.nil ?_
      exact ⟨rfl, Sub.cons' rfl rfl (Sub.cons' rfl rfl (Sub.cons' rfl rfl (Sub.cons' rfl rfl (Sub.cons' rfl rfl (Sub.cons' rfl rfl (Sub.cons' rfl rfl (Sub.cons' rfl rfl (Sub.cons' rfl rfl (Sub.cons' rfl (bool_eq (by simp only [c1, Bool.true_and, Bool.false_and, Bool.and_true, Bool.and_false, Bool.true_or, Bool.false_or, Bool.or_true, Bool.or_false, Bool.not_true, Bool.not_false, cond_true, cond_false])) (Sub.nil _))))))))))⟩
  · rintro t' _ ⟨rfl, hsub⟩
    refine AWp.sub hsub ?_
    refine AWp.cutQ (fun t' H' => H ++ [AObj.row false (ints r), AObj.row false (ints q), AObj.row false (ints ([r, q]).flatten)] = H' ∧ Sub [(0, .int .i64 (n)), (1, .agg (ints r).toArray), (2, .agg (ints q).toArray), (3, .int .i64 (a)), (5, .pointer (some ⟨H.length + 0, 0, none⟩)), (6, .pointer (some ⟨H.length + 1, 0, none⟩)), (8, .slice none 0 0), (9, .int .i64 (0)), (10, .int .i64 ((bif ((decide (rcode n ([r, q]) = 0)) && (!(inB a 0 (n - 1)))) then 2 else rcode n ([r, q])))), (29, .bool ((decide (rcode n ([r, q]) = 0)) && (!(inB a 0 (n - 1)))))] t') ?_ ?_
    · refine AWp.cond rfl (fun c2 => ?_) (fun c2 => ?_)
      · have d2 := c2
        try simp only [inB, Bool.and_eq_true, Bool.or_eq_true, Bool.and_eq_false_iff, Bool.or_eq_false_iff, Bool.not_eq_true', Bool.not_eq_false', decide_eq_true_eq, decide_eq_false_iff_not, Int.not_le, Int.not_lt] at d2
        refine AWp.region ?_
        refine AOps.p rfl (p_assign rfl) ?_
        refine AOps.nil ?_
        exact ⟨rfl, Sub.cons' rfl rfl (Sub.cons' rfl rfl (Sub.cons' rfl rfl (Sub.cons' rfl rfl (Sub.cons' rfl rfl (Sub.cons' rfl rfl (Sub.cons' rfl rfl (Sub.cons' rfl rfl (Sub.cons' rfl (by rw [c2]; rfl) (Sub.cons' rfl rfl (Sub.nil _))))))))))⟩
      · have d2 := c2
        try simp only [inB, Bool.and_eq_true, Bool.or_eq_true, Bool.and_eq_false_iff, Bool.or_eq_false_iff, Bool.not_eq_true', Bool.not_eq_false', decide_eq_true_eq, decide_eq_false_iff_not, Int.not_le, Int.not_lt] at d2
        refine AWp.skip ?_
        exact ⟨rfl, Sub.cons' rfl rfl (Sub.cons' rfl rfl (Sub.cons' rfl rfl (Sub.cons' rfl rfl (Sub.cons' rfl rfl (Sub.cons' rfl rfl (Sub.cons' rfl rfl (Sub.cons' rfl rfl (Sub.cons' rfl (by rw [c2]; rfl) (Sub.cons' rfl rfl (Sub.nil _))))))))))⟩
    · rintro t' _ ⟨rfl, hsub⟩
      refine AWp.sub hsub ?_
      refine AWp.seq ?_
      refine AWp.seq ?_
      refine AWp.region ?_
      refine AOps.p rfl (p_move rfl) ?_
      refine AOps.p rfl (p_neq rfl rfl) ?_
      refine AOps.nil ?_
      refine AWp.cond rfl (fun c3 => ?_) (fun c3 => ?_)
      · have d3 := c3
        try simp only [inB, Bool.and_eq_true, Bool.or_eq_true, Bool.and_eq_false_iff, Bool.or_eq_false_iff, Bool.not_eq_true', Bool.not_eq_false', decide_eq_true_eq, decide_eq_false_iff_not, Int.not_le, Int.not_lt] at d3
        exact absurd c3 (by rw [hc, chOk_a hok]; simp)
      · have d3 := c3
        try simp only [inB, Bool.and_eq_true, Bool.or_eq_true, Bool.and_eq_false_iff, Bool.or_eq_false_iff, Bool.not_eq_true', Bool.not_eq_false', decide_eq_true_eq, decide_eq_false_iff_not, Int.not_le, Int.not_lt] at d3
        refine AWp.skip ?_
        refine AWp.cut (fun t' H' => H ++ [AObj.row false (ints r), AObj.row false (ints q), AObj.row false (ints ([r, q]).flatten), AObj.row false (ints ([a])), AObj.row false (ints ([r, q]).flatten)] = H' ∧ Sub [(0, .int .i64 (n)), (1, .agg (ints r).toArray), (2, .agg (ints q).toArray), (3, .int .i64 (a)), (5, .pointer (some ⟨H.length + 0, 0, none⟩)), (6, .pointer (some ⟨H.length + 1, 0, none⟩)), (8, .slice none 0 0), (9, .int .i64 (0)), (10, .int .i64 ((bif ((decide (rcode n ([r, q]) = 0)) && (!(inB a 0 (n - 1)))) then 2 else rcode n ([r, q])))), (11, .slice (some ⟨H.length + 3, 0, none⟩) (1) (1)), (12, .slice (some ⟨H.length + 4, 0, none⟩) (2) (2)), (29, .bool ((decide (rcode n ([r, q]) = 0)) && (!(inB a 0 (n - 1))))), (31, .bool (!decide ((bif ((decide (rcode n ([r, q]) = 0)) && (!(inB a 0 (n - 1)))) then 2 else rcode n ([r, q])) = 0)))] t') ?_ ?_
        · refine DTr.start mix ?_
          refine DTr.p rfl rfl (p_move rfl) ?_
          refine DTr.aI (cells := ints ([a])) (i := H.length + 3) (H' := H ++ [AObj.row false (ints r), AObj.row false (ints q), AObj.row false (ints ([r, q]).flatten), AObj.row false (ints ([a]))]) rfl rfl (by exact List.length_append) (by exact List.append_assoc _ _ _) (a_buildInts (vs := [(0, .int .i64 (a))]) (xs := [a]) Try.underlying34 Try.sizeOf2 Try.zeroValue2 rfl rfl (by decide) rfl rfl) ?_
          refine DTr.r rfl rfl (r_loadN (vs := ints r) rfl Try.isAgg25 Try.sizeOf25 (by rw [ints_length]; first | rfl | omega | (simp only [List.length_set, List.length_replicate]; omega))) (many_read (row_cells (own_row rfl)) ints_flat) ?_
          refine DTr.r rfl rfl (r_loadN (vs := ints q) rfl Try.isAgg25 Try.sizeOf25 (by rw [ints_length]; first | rfl | omega | (simp only [List.length_set, List.length_replicate]; omega))) (many_read (row_cells (own_row rfl)) ints_flat) ?_
          refine DTr.aI (cells := ints ([r, q]).flatten) (i := H.length + 4) (H' := H ++ [AObj.row false (ints r), AObj.row false (ints q), AObj.row false (ints ([r, q]).flatten), AObj.row false (ints ([a])), AObj.row false (ints ([r, q]).flatten)]) rfl rfl (by exact List.length_append) (by exact List.append_assoc _ _ _) (a_build2 (zr := List.replicate 14 0) Try.underlying45 Try.sizeOf25 Try.zeroValue25 rfl rfl (by decide) (by decide) rfl rfl (by first | assumption | exact rw_len (by assumption) (by omega)) (by first | assumption | exact rw_len (by assumption) (by omega))) ?_
          refine DTr.p rfl rfl (p_assign rfl) ?_
          refine DTr.p rfl rfl (p_assign rfl) ?_
          exact DTr.nil ⟨by kernel_rfl, dyn_noWrite rfl, rfl, Sub.cons' rfl rfl (Sub.cons' rfl rfl (Sub.cons' rfl rfl (Sub.cons' rfl rfl (Sub.cons' rfl rfl (Sub.cons' rfl rfl (Sub.cons' rfl rfl (Sub.cons' rfl rfl (Sub.cons' rfl rfl (Sub.cons' rfl rfl (Sub.cons' rfl rfl (Sub.cons' rfl rfl (Sub.cons' rfl rfl (Sub.nil _)))))))))))))⟩
        · rintro t' _ ⟨rfl, hsub⟩
          refine AWp.sub hsub ?_
          refine AWp.seq ?_
          refine AWp.region ?_
          refine AOps.p rfl (p_assign rfl) ?_
          refine AOps.nil ?_
          refine AWp.block ?_
          refine AWp.round (α := Nat × Nat × Nat × AHeap) (fun (k, i, c, G) => [(0, .int .i64 (n)), (1, .agg (ints r).toArray), (2, .agg (ints q).toArray), (3, .int .i64 (a)), (5, .pointer (some ⟨H.length + 0, 0, none⟩)), (6, .pointer (some ⟨H.length + 1, 0, none⟩)), (8, .slice none 0 0), (9, .int .i64 (0)), (10, .int .i64 ((bif ((decide (rcode n ([r, q]) = 0)) && (!(inB a 0 (n - 1)))) then 2 else rcode n ([r, q])))), (11, .slice (some ⟨i, 0, none⟩) (k + 1) (c)), (12, .slice (some ⟨H.length + 4, 0, none⟩) (2) (2)), (13, .int .i64 (((k % 2 : Nat) : Int))), (29, .bool ((decide (rcode n ([r, q]) = 0)) && (!(inB a 0 (n - 1))))), (31, .bool (!decide ((bif ((decide (rcode n ([r, q]) = 0)) && (!(inB a 0 (n - 1)))) then 2 else rcode n ([r, q])) = 0)))]) (fun (k, i, c, G) => G) (fun (k, i, c, G) => (k ≤ chK r q a ∧ Buf (H.length + 3) G (some ⟨i, 0, none⟩) (k + 1) c 1 (ints (chl r q a k)) ∧ c = (if k = 0 then 1 else capU + 1) ∧ i ≠ H.length + 4) ∧ (∀ j, j < H.length → hget G j = hget H j) ∧ H.length + 3 ≤ G.length ∧ hget G (H.length + 0) = AObj.row false (ints r) ∧ H.length + 0 < G.length ∧ hget G (H.length + 1) = AObj.row false (ints q) ∧ H.length + 1 < G.length ∧ hget G (H.length + 2) = AObj.row false (ints ([r, q]).flatten) ∧ H.length + 2 < G.length ∧ hget G (H.length + 4) = AObj.row false (ints ([r, q]).flatten) ∧ H.length + 4 < G.length) (fun (k, i, c, G) => chK r q a - k) (0, H.length + 3, 1, H ++ [AObj.row false (ints r), AObj.row false (ints q), AObj.row false (ints ([r, q]).flatten), AObj.row false (ints ([a])), AObj.row false (ints ([r, q]).flatten)]) ⟨⟨by omega, Buf.new (by omega) (own_row rfl) rfl (.inr ⟨rfl, by decide⟩), rfl, by omega⟩, (fun j hj => hget_append_lt hj), (by simp only [List.length_append, List.length_cons, List.length_nil]; omega), own_row rfl, (by simp only [List.length_append, List.length_cons, List.length_nil]; omega), own_row rfl, (by simp only [List.length_append, List.length_cons, List.length_nil]; omega), own_row rfl, (by simp only [List.length_append, List.length_cons, List.length_nil]; omega), own_row rfl, (by simp only [List.length_append, List.length_cons, List.length_nil]; omega)⟩ (Sub.cons' rfl rfl (Sub.cons' rfl rfl (Sub.cons' rfl rfl (Sub.cons' rfl rfl (Sub.cons' rfl rfl (Sub.cons' rfl rfl (Sub.cons' rfl rfl (Sub.cons' rfl rfl (Sub.cons' rfl rfl (Sub.cons' rfl rfl (Sub.cons' rfl rfl (Sub.cons' rfl rfl (Sub.cons' rfl rfl (Sub.cons' rfl rfl (Sub.nil _))))))))))))))) rfl ?_
          rintro ⟨k, i, c, G⟩ ⟨hInv0, holdG, hbG, fG_0, gG_0, fG_1, gG_1, fG_2, gG_2, fG_3, gG_3⟩
          obtain ⟨hk, hB, hcap, hne0⟩ := hInv0
          have fB := (Buf.row hB).1
          have lB := row_lt fB
          have hbi := (Buf.row hB).2.1
          have hv := chl_last r q a k
          have hin := chn_in hok k
          have hin1 := chn_in hok (k + 1)
          have hcl := chl_length r q a k
          refine AWp.sub (t' := [(0, .int .i64 (n)), (1, .agg (ints r).toArray), (2, .agg (ints q).toArray), (3, .int .i64 (a)), (5, .pointer (some ⟨H.length + 0, 0, none⟩)), (6, .pointer (some ⟨H.length + 1, 0, none⟩)), (8, .slice none 0 0), (9, .int .i64 (0)), (10, .int .i64 ((bif ((decide (rcode n ([r, q]) = 0)) && (!(inB a 0 (n - 1)))) then 2 else rcode n ([r, q])))), (11, .slice (some ⟨i, 0, none⟩) (k + 1) (c)), (12, .slice (some ⟨H.length + 4, 0, none⟩) (2) (2)), (13, .int .i64 (((k % 2 : Nat) : Int))), (29, .bool ((decide (rcode n ([r, q]) = 0)) && (!(inB a 0 (n - 1))))), (31, .bool (!decide ((bif ((decide (rcode n ([r, q]) = 0)) && (!(inB a 0 (n - 1)))) then 2 else rcode n ([r, q])) = 0)))]) (Sub.refl _) ?_
          refine AWp.heap (H' := G) rfl ?_
          refine AWp.seq ?_
          refine AWp.block ?_
          refine AWp.seq ?_
          refine AWp.region ?_
          refine AOps.p rfl (p_move rfl) ?_
          refine AOps.p rfl (p_move rfl) ?_
          refine AOps.p rfl (p_len_slice rfl Try.underlying34) ?_
          refine AOps.p rfl (p_sub rfl rfl (by rw [wr64 (by omega) (by omega)] <;> omega)) ?_
          refine AOps.p rfl (s_indexSl (q := k) Try.underlying34 Try.sizeOf2 rfl rfl (by omega) (by omega) (by omega)) ?_
          refine AOps.c rfl (s_load Try.isAgg2 rfl (row_cell (fB) (ints_get (by omega)))) ?_
          refine AOps.p rfl (p_assign rfl) ?_
          refine AOps.nil ?_
          refine AWp.seq ?_
          refine AWp.region ?_
          refine AOps.p rfl (p_move rfl) ?_
          refine AOps.p rfl (p_move rfl) ?_
          refine AOps.p rfl (p_move rfl) ?_
          refine AOps.p rfl (s_indexSl (q := (k % 2) * 14) Try.underlying45 Try.sizeOf25 rfl rfl (by omega) (by omega) (by omega)) ?_
          refine AOps.p rfl (s_indexArr (q := (k % 2) * 14 + (rd (chl r q a k) k).toNat) Try.underlying25 Try.sizeOf2 rfl rfl (by omega) (by omega) (by omega)) ?_
          refine AOps.c rfl (s_load Try.isAgg2 rfl (row_cell (fG_3) (flat_cell (all_two (by first | assumption | exact rw_len (by assumption) (by omega)) (by first | assumption | exact rw_len (by assumption) (by omega))) (by first | omega | (simp; omega)) (by omega)))) ?_
          refine AOps.p rfl (p_assign rfl) ?_
          refine AOps.nil ?_
          refine AWp.seq ?_
          refine AWp.cut (fun t' H' => G = H' ∧ Sub [(0, .int .i64 (n)), (1, .agg (ints r).toArray), (2, .agg (ints q).toArray), (3, .int .i64 (a)), (5, .pointer (some ⟨H.length + 0, 0, none⟩)), (6, .pointer (some ⟨H.length + 1, 0, none⟩)), (8, .slice none 0 0), (9, .int .i64 (0)), (10, .int .i64 ((bif ((decide (rcode n ([r, q]) = 0)) && (!(inB a 0 (n - 1)))) then 2 else rcode n ([r, q])))), (11, .slice (some ⟨i, 0, none⟩) (k + 1) (c)), (12, .slice (some ⟨H.length + 4, 0, none⟩) (2) (2)), (13, .int .i64 (((k % 2 : Nat) : Int))), (14, .int .i64 (rd (chl r q a k) k)), (15, .int .i64 (rd (rw_ ([r, q]) (k % 2)) ((rd (chl r q a k) k).toNat))), (29, .bool ((decide (rcode n ([r, q]) = 0)) && (!(inB a 0 (n - 1))))), (31, .bool (!decide ((bif ((decide (rcode n ([r, q]) = 0)) && (!(inB a 0 (n - 1)))) then 2 else rcode n ([r, q])) = 0))), (59, .bool ((decide (rd (rw_ ([r, q]) (k % 2)) ((rd (chl r q a k) k).toNat) = a)) || (decide (rd (rw_ ([r, q]) (k % 2)) ((rd (chl r q a k) k).toNat) = rd (chl r q a k) k))))] t') ?_ ?_
          · refine AWp.region ?_
            refine AOps.p rfl (p_move rfl) ?_
            refine AOps.p rfl (p_move rfl) ?_
            refine AOps.p rfl (p_eql rfl rfl) ?_
            refine AOps.p rfl (p_move rfl) ?_
            refine AOps.cases (d := 55) rfl (fun c4 => ?_) (fun c4 => ?_)
            · have d4 := c4
              try simp only [inB, Bool.and_eq_true, Bool.or_eq_true, Bool.and_eq_false_iff, Bool.or_eq_false_iff, Bool.not_eq_true', Bool.not_eq_false', decide_eq_true_eq, decide_eq_false_iff_not, Int.not_le, Int.not_lt] at d4
              refine AOps.gn rfl rfl rfl ?_
              refine AOps.gn rfl rfl rfl ?_
              refine AOps.gn rfl rfl rfl ?_
              refine AOps.p rfl (p_pickT rfl rfl) ?_
              refine AOps.nil ?_
              exact ⟨rfl, Sub.cons' rfl rfl (Sub.cons' rfl rfl (Sub.cons' rfl rfl (Sub.cons' rfl rfl (Sub.cons' rfl rfl (Sub.cons' rfl rfl (Sub.cons' rfl rfl (Sub.cons' rfl rfl (Sub.cons' rfl rfl (Sub.cons' rfl rfl (Sub.cons' rfl rfl (Sub.cons' rfl rfl (Sub.cons' rfl rfl (Sub.cons' rfl rfl (Sub.cons' rfl rfl (Sub.cons' rfl rfl (Sub.cons' rfl (bool_eq (by simp only [c4, Bool.true_and, Bool.false_and, Bool.and_true, Bool.and_false, Bool.true_or, Bool.false_or, Bool.or_true, Bool.or_false, Bool.not_true, Bool.not_false, cond_true, cond_false])) (Sub.nil _)))))))))))))))))⟩
            · have d4 := c4
              try simp only [inB, Bool.and_eq_true, Bool.or_eq_true, Bool.and_eq_false_iff, Bool.or_eq_false_iff, Bool.not_eq_true', Bool.not_eq_false', decide_eq_true_eq, decide_eq_false_iff_not, Int.not_le, Int.not_lt] at d4
              refine AOps.gp rfl rfl rfl (p_move rfl) ?_
              refine AOps.gp rfl rfl rfl (p_move rfl) ?_
              refine AOps.gp rfl rfl rfl (p_eql rfl rfl) ?_
              refine AOps.p rfl (p_pickF rfl rfl) ?_
              refine AOps.nil ?_
              exact ⟨rfl, Sub.cons' rfl rfl (Sub.cons' rfl rfl (Sub.cons' rfl rfl (Sub.cons' rfl rfl (Sub.cons' rfl rfl (Sub.cons' rfl rfl (Sub.cons' rfl rfl (Sub.cons' rfl rfl (Sub.cons' rfl rfl (Sub.cons' rfl rfl (Sub.cons' rfl rfl (Sub.cons' rfl rfl (Sub.cons' rfl rfl (Sub.cons' rfl rfl (Sub.cons' rfl rfl (Sub.cons' rfl rfl (Sub.cons' rfl (bool_eq (by simp only [c4, Bool.true_and, Bool.false_and, Bool.and_true, Bool.and_false, Bool.true_or, Bool.false_or, Bool.or_true, Bool.or_false, Bool.not_true, Bool.not_false, cond_true, cond_false])) (Sub.nil _)))))))))))))))))⟩
          · rintro t' _ ⟨rfl, hsub⟩
            refine AWp.sub hsub ?_
            refine AWp.cond rfl (fun c5 => ?_) (fun c5 => ?_)
            · have d5 := c5
              try simp only [inB, Bool.and_eq_true, Bool.or_eq_true, Bool.and_eq_false_iff, Bool.or_eq_false_iff, Bool.not_eq_true', Bool.not_eq_false', decide_eq_true_eq, decide_eq_false_iff_not, Int.not_le, Int.not_lt] at d5
              refine AWp.seq ?_
              refine AWp.region ?_
              refine AOps.p rfl (p_move rfl) ?_
              refine AOps.p rfl (p_assign rfl) ?_
              refine AOps.p rfl (p_assign rfl) ?_
              refine AOps.nil ?_
              refine AWp.ret ?_
              refine ends2 (.inr rfl) (res2 rfl (rv_tmp rfl) (rv_tmp rfl)) ?_
              -- return 1: .tuple #[.slice (some ⟨i, 0, none⟩) (k + 1) (c), .int .i64 (0)]
              have hK := chK_at hok hk (stp_of c5)
              have hC : chC r q a = c := by unfold chC; rw [hK, hcap]
              rw [hC, hK]
              exact Fin.one (k := i) holdG (by omega) fB ints_flat (ren_tup2 ren_slice (.flat _ (.int _ _)))
            · have d5 := c5
              try simp only [inB, Bool.and_eq_true, Bool.or_eq_true, Bool.and_eq_false_iff, Bool.or_eq_false_iff, Bool.not_eq_true', Bool.not_eq_false', decide_eq_true_eq, decide_eq_false_iff_not, Int.not_le, Int.not_lt] at d5
              refine AWp.skip ?_
              refine AWp.region ?_
              refine AOps.p rfl (p_move rfl) ?_
              refine AOps.p rfl (p_move rfl) ?_
              refine AOps.c rfl (s_buildInts (i := G.length + 0) (vs := [(0, .int .i64 (rd (rw_ ([r, q]) (k % 2)) ((rd (chl r q a k) k).toNat)))]) (xs := [rd (rw_ ([r, q]) (k % 2)) ((rd (chl r q a k) k).toNat)]) Try.underlying34 Try.sizeOf2 Try.zeroValue2 rfl rfl (by decide) rfl rfl rfl rfl) ?_
              refine AOps.c rfl (s_append (i' := (G ++ [AObj.row false (ints ([rd (rw_ ([r, q]) (k % 2)) ((rd (chl r q a k) k).toNat)]))]).length) (by_ := 8) (us := ints (chl r q a k)) (vs := ints ([rd (rw_ ([r, q]) (k % 2)) ((rd (chl r q a k) k).toNat)])) (k := 1) Try.underlying34 Try.underlying34 Try.typeInfo2 Try.sizeOf2 Try.zeroValue2 rfl rfl rfl rfl rfl (Buf.more hB) (own_row rfl) (by rw [ints_length]; first | rfl | omega) (by omega) ints_one ⟨by omega, by decide⟩ rfl (congrArg (fun c => kill _ _ ++ [AObj.row false c]) (ints_app _ _))) ?_
              obtain ⟨G1, hG1⟩ : ∃ Gx_ : AHeap, Gx_ = kill (some ⟨i, 0, none⟩) (G ++ [AObj.row false (ints ([rd (rw_ ([r, q]) (k % 2)) ((rd (chl r q a k) k).toNat)]))]) ++ [AObj.row false (ints ((chl r q a k) ++ [rd (rw_ ([r, q]) (k % 2)) ((rd (chl r q a k) k).toNat)]))] := ⟨_, rfl⟩
              have lG1 : G1.length = G.length + 1 + 1 := by rw [hG1, append_len]; rw [List.length_append]; rfl
              have oG1 : Buf (H.length + 3) (G ++ [AObj.row false (ints ([rd (rw_ ([r, q]) (k % 2)) ((rd (chl r q a k) k).toNat)]))]) (some ⟨i, 0, none⟩) (k + 1) (c) 1 (ints (chl r q a k)) := (Buf.more hB)
              have kG1_1 : hget G1 (H.length + 0) = AObj.row false (ints r) := by rw [hG1]; exact (append_get2 (by have := gG_0; simp only [List.length_append, List.length_cons, List.length_nil]; omega) (by first | exact Buf.below oG1 (by omega) | (intro x e; cases e; dsimp only; omega))).trans ((hget_append_lt gG_0).trans (fG_0))
              have mG1_1 : H.length + 0 < G1.length := by have := gG_0; omega
              have kG1_2 : hget G1 (H.length + 1) = AObj.row false (ints q) := by rw [hG1]; exact (append_get2 (by have := gG_1; simp only [List.length_append, List.length_cons, List.length_nil]; omega) (by first | exact Buf.below oG1 (by omega) | (intro x e; cases e; dsimp only; omega))).trans ((hget_append_lt gG_1).trans (fG_1))
              have mG1_2 : H.length + 1 < G1.length := by have := gG_1; omega
              have kG1_3 : hget G1 (H.length + 2) = AObj.row false (ints ([r, q]).flatten) := by rw [hG1]; exact (append_get2 (by have := gG_2; simp only [List.length_append, List.length_cons, List.length_nil]; omega) (by first | exact Buf.below oG1 (by omega) | (intro x e; cases e; dsimp only; omega))).trans ((hget_append_lt gG_2).trans (fG_2))
              have mG1_3 : H.length + 2 < G1.length := by have := gG_2; omega
              have kG1_4 : hget G1 (H.length + 4) = AObj.row false (ints ([r, q]).flatten) := by rw [hG1]; exact (append_get2 (by have := gG_3; simp only [List.length_append, List.length_cons, List.length_nil]; omega) (by intro x e; cases e; first | assumption | omega)).trans ((hget_append_lt gG_3).trans (fG_3))
              have mG1_4 : H.length + 4 < G1.length := by have := gG_3; omega
              have holdG1 : ∀ j, j < H.length → hget G1 j = hget H j := fun j hj => by rw [hG1]; exact (append_get2 (by simp only [List.length_append, List.length_cons, List.length_nil]; omega) (Buf.below oG1 (by omega))).trans ((fun j hj => (hget_append_lt (by omega)).trans (holdG j hj)) j hj)
              have nG1 : hget G1 ((G ++ [AObj.row false (ints ([rd (rw_ ([r, q]) (k % 2)) ((rd (chl r q a k) k).toNat)]))]).length) = AObj.row false (ints ((chl r q a k) ++ [rd (rw_ ([r, q]) (k % 2)) ((rd (chl r q a k) k).toNat)])) := by rw [hG1]; exact append_new
              have eG1 : (G ++ [AObj.row false (ints ([rd (rw_ ([r, q]) (k % 2)) ((rd (chl r q a k) k).toNat)]))]).length = G.length + 1 := List.length_append
              have qG1 : (G ++ [AObj.row false (ints ([rd (rw_ ([r, q]) (k % 2)) ((rd (chl r q a k) k).toNat)]))]).length < G1.length := by omega
              have bG1 : Buf (H.length + 3) G1 (some ⟨(G ++ [AObj.row false (ints ([rd (rw_ ([r, q]) (k % 2)) ((rd (chl r q a k) k).toNat)]))]).length, 0, none⟩) (k + 1 + 1) (capU + 1) 1 (ints ((chl r q a k) ++ [rd (rw_ ([r, q]) (k % 2)) ((rd (chl r q a k) k).toNat)])) := Buf.new (by omega) nG1 (by simp only [ints_length, List.length_append, List.length_cons, List.length_nil]; omega) (.inl rfl)
              refine AOps.heap (H' := G1) hG1.symm ?_
              refine AOps.p rfl (p_assign rfl) ?_
              refine AOps.nil ?_
              refine AWp.region ?_
              refine AOps.p rfl (p_move rfl) ?_
              refine AOps.p rfl (p_sub rfl rfl (wr64 (by omega) (by omega))) ?_
              refine AOps.p rfl (p_assign rfl) ?_
              refine AOps.nil ?_
              have hst : stp r q a k = false := stp_of c5
              have hB2 : Buf (H.length + 3) G1 (some ⟨(G ++ [AObj.row false (ints ([rd (rw_ ([r, q]) (k % 2)) ((rd (chl r q a k) k).toNat)]))]).length, 0, none⟩) (k + 1 + 1) (capU + 1) 1 (ints (chl r q a (k + 1))) := Buf.new (by omega) (by rw [chl_succ]; exact (nG1.trans (congrArg (fun x => AObj.row false (ints (chl r q a k ++ [x]))) (by rw [hv]; rfl)))) (by rw [ints_length, chl_length]; omega) (.inl rfl)
              exact ⟨(k + 1, (G ++ [AObj.row false (ints ([rd (rw_ ([r, q]) (k % 2)) ((rd (chl r q a k) k).toNat)]))]).length, capU + 1, G1), ⟨⟨chK_lt hok hk hst, hB2, (if_neg (by omega)).symm, by omega⟩, holdG1, (by omega), kG1_1, mG1_1, kG1_2, mG1_2, kG1_3, mG1_3, kG1_4, mG1_4⟩, by have := chK_lt hok hk hst; show chK r q a - (k + 1) < chK r q a - k; omega, Sub.cons' rfl rfl (Sub.cons' rfl rfl (Sub.cons' rfl rfl (Sub.cons' rfl rfl (Sub.cons' rfl rfl (Sub.cons' rfl rfl (Sub.cons' rfl rfl (Sub.cons' rfl rfl (Sub.cons' rfl rfl (Sub.cons' rfl (by first | rfl | (exact int_eq (by omega))) (Sub.cons' rfl rfl (Sub.cons' rfl (by first | rfl | (exact int_eq (by omega))) (Sub.cons' rfl rfl (Sub.cons' rfl rfl (Sub.nil _)))))))))))))), rfl⟩

theorem iChain_ok (H : AHeap) (n : Int) (r q : List Int) (a : Int) (hr : r.length = 14) (hq : q.length = 14) (hok : chOk n r q a = true) {i' : Nat} {H' : AHeap} (hi : H.length = i') (hH : H ++ [AObj.row false (ints (chl r q a (chK r q a)))] = H') : ACall Try.prog 20 ([.int .i64 (n), .agg (ints r).toArray, .agg (ints q).toArray, .int .i64 (a)]) H (.tuple #[.slice (some ⟨i', 0, none⟩) (chK r q a + 1) (chC r q a), .int .i64 0]) H' := by
  subst hi hH
  have hc := rcode_ok hok
  have hn := chOk_n hok
  obtain ⟨hs1, hs2, hs3⟩ := chK_spec hok
  refine ACall.body (N := 60) [(0, .int .i64 (n)), (1, .agg (ints r).toArray), (2, .agg (ints q).toArray), (3, .int .i64 (a))] Try.func20 rfl rfl rfl rfl ?_
  refine AWp.seq ?_
  refine AWp.region ?_
  refine AOps.c rfl (s_box (i := H.length + 0) (cs := ints r) rfl rfl rfl rfl) ?_
  refine AOps.c rfl (s_box (i := H.length + 1) (cs := ints q) rfl (by exact List.length_append) rfl (by exact List.append_assoc _ _ _)) ?_
  refine AOps.p rfl (p_assign rfl) ?_
  refine AOps.p rfl (p_assign rfl) ?_
  refine AOps.nil ?_
  refine AWp.seq ?_
  refine AWp.region ?_
  refine AOps.p rfl (p_move rfl) ?_
  refine AOps.c rfl (s_loadN (vs := ints r) Try.isAgg25 Try.sizeOf25 rfl (by rw [ints_length]; first | rfl | omega | (simp only [List.length_set, List.length_replicate]; omega)) (row_cells (own_row rfl))) ?_
  refine AOps.c rfl (s_loadN (vs := ints q) Try.isAgg25 Try.sizeOf25 rfl (by rw [ints_length]; first | rfl | omega | (simp only [List.length_set, List.length_replicate]; omega)) (row_cells (own_row rfl))) ?_
  refine AOps.c rfl (o_call (vs := [.int .i64 (n), .agg (ints r).toArray, .agg (ints q).toArray]) rfl Try.call37 (twoCode_ok _ _ _ _ (by first | assumption | exact rw_len (by assumption) (by omega)) (by first | assumption | exact rw_len (by assumption) (by omega)))) ?_
  refine AOps.p rfl (p_assign rfl) ?_
  refine AOps.nil ?_
  refine AWp.seq ?_
  refine AWp.cut (fun t' H' => H ++ [AObj.row false (ints r), AObj.row false (ints q)] = H' ∧ Sub [(0, .int .i64 (n)), (1, .agg (ints r).toArray), (2, .agg (ints q).toArray), (3, .int .i64 (a)), (5, .pointer (some ⟨H.length + 0, 0, none⟩)), (6, .pointer (some ⟨H.length + 1, 0, none⟩)), (8, .slice none 0 0), (9, .int .i64 (0)), (10, .int .i64 (rcode n [r, q])), (28, .bool ((decide (rcode n [r, q] = 0)) && (!(inB a 0 (n - 1)))))] t') ?_ ?_
  · refine AWp.region ?_
    refine AOps.p rfl (p_move rfl) ?_
    refine AOps.p rfl (p_eql rfl rfl) ?_
    refine AOps.p rfl (p_move rfl) ?_
    refine AOps.cases (d := 22) rfl (fun c1 => ?_) (fun c1 => ?_)
    · have d1 := c1
      try simp only [inB, Bool.and_eq_true, Bool.or_eq_true, Bool.and_eq_false_iff, Bool.or_eq_false_iff, Bool.not_eq_true', Bool.not_eq_false', decide_eq_true_eq, decide_eq_false_iff_not, Int.not_le, Int.not_lt] at d1
      refine AOps.gp rfl rfl rfl (p_move rfl) ?_
      refine AOps.gp rfl rfl rfl (p_move rfl) ?_
      refine AOps.gp rfl rfl rfl (p_sub rfl rfl (wr64 (by omega) (by omega))) ?_
      refine AOps.gc rfl rfl rfl (o_call (vs := [.int .i64 (a), .int .i64 (0), .int .i64 (n - 1)]) rfl Try.call30 (between_ok _ _ _ _)) ?_
      refine AOps.gp rfl rfl rfl (p_not rfl) ?_
      refine AOps.p rfl (p_pickT rfl rfl) ?_
      refine AOps.nil ?_
      exact ⟨rfl, Sub.cons' rfl rfl (Sub.cons' rfl rfl (Sub.cons' rfl rfl (Sub.cons' rfl rfl (Sub.cons' rfl rfl (Sub.cons' rfl rfl (Sub.cons' rfl rfl (Sub.cons' rfl rfl (Sub.cons' rfl rfl (Sub.cons' rfl (bool_eq (by simp only [c1, Bool.true_and, Bool.false_and, Bool.and_true, Bool.and_false, Bool.true_or, Bool.false_or, Bool.or_true, Bool.or_false, Bool.not_true, Bool.not_false, cond_true, cond_false])) (Sub.nil _))))))))))⟩
    · have d1 := c1
      try simp only [inB, Bool.and_eq_true, Bool.or_eq_true, Bool.and_eq_false_iff, Bool.or_eq_false_iff, Bool.not_eq_true', Bool.not_eq_false', decide_eq_true_eq, decide_eq_false_iff_not, Int.not_le, Int.not_lt] at d1
      refine AOps.gn rfl rfl rfl ?_
      refine AOps.gn rfl rfl rfl ?_
      refine AOps.gn rfl rfl rfl ?_
      refine AOps.gn rfl rfl rfl ?_
      refine AOps.gn rfl rfl rfl ?_
      refine AOps.p rfl (p_pickF rfl rfl) ?_
      refine AOps.nil ?_
      exact ⟨rfl, Sub.cons' rfl rfl (Sub.cons' rfl rfl (Sub.cons' rfl rfl (Sub.cons' rfl rfl (Sub.cons' rfl rfl (Sub.cons' rfl rfl (Sub.cons' rfl rfl (Sub.cons' rfl rfl (Sub.cons' rfl rfl (Sub.cons' rfl (bool_eq (by simp only [c1, Bool.true_and, Bool.false_and, Bool.and_true, Bool.and_false, Bool.true_or, Bool.false_or, Bool.or_true, Bool.or_false, Bool.not_true, Bool.not_false, cond_true, cond_false])) (Sub.nil _))))))))))⟩
  · rintro t' _ ⟨rfl, hsub⟩
    refine AWp.sub hsub ?_
    refine AWp.cutQ (fun t' H' => H ++ [AObj.row false (ints r), AObj.row false (ints q)] = H' ∧ Sub [(0, .int .i64 (n)), (1, .agg (ints r).toArray), (2, .agg (ints q).toArray), (3, .int .i64 (a)), (5, .pointer (some ⟨H.length + 0, 0, none⟩)), (6, .pointer (some ⟨H.length + 1, 0, none⟩)), (8, .slice none 0 0), (9, .int .i64 (0)), (10, .int .i64 ((bif ((decide (rcode n [r, q] = 0)) && (!(inB a 0 (n - 1)))) then 2 else rcode n [r, q]))), (28, .bool ((decide (rcode n [r, q] = 0)) && (!(inB a 0 (n - 1)))))] t') ?_ ?_
    · refine AWp.cond rfl (fun c2 => ?_) (fun c2 => ?_)
      · have d2 := c2
        try simp only [inB, Bool.and_eq_true, Bool.or_eq_true, Bool.and_eq_false_iff, Bool.or_eq_false_iff, Bool.not_eq_true', Bool.not_eq_false', decide_eq_true_eq, decide_eq_false_iff_not, Int.not_le, Int.not_lt] at d2
        refine AWp.region ?_
        refine AOps.p rfl (p_assign rfl) ?_
        refine AOps.nil ?_
        exact ⟨rfl, Sub.cons' rfl rfl (Sub.cons' rfl rfl (Sub.cons' rfl rfl (Sub.cons' rfl rfl (Sub.cons' rfl rfl (Sub.cons' rfl rfl (Sub.cons' rfl rfl (Sub.cons' rfl rfl (Sub.cons' rfl (by rw [c2]; rfl) (Sub.cons' rfl rfl (Sub.nil _))))))))))⟩
      · have d2 := c2
        try simp only [inB, Bool.and_eq_true, Bool.or_eq_true, Bool.and_eq_false_iff, Bool.or_eq_false_iff, Bool.not_eq_true', Bool.not_eq_false', decide_eq_true_eq, decide_eq_false_iff_not, Int.not_le, Int.not_lt] at d2
        refine AWp.skip ?_
        exact ⟨rfl, Sub.cons' rfl rfl (Sub.cons' rfl rfl (Sub.cons' rfl rfl (Sub.cons' rfl rfl (Sub.cons' rfl rfl (Sub.cons' rfl rfl (Sub.cons' rfl rfl (Sub.cons' rfl rfl (Sub.cons' rfl (by rw [c2]; rfl) (Sub.cons' rfl rfl (Sub.nil _))))))))))⟩
    · rintro t' _ ⟨rfl, hsub⟩
      refine AWp.sub hsub ?_
      refine AWp.seq ?_
      refine AWp.seq ?_
      refine AWp.region ?_
      refine AOps.p rfl (p_move rfl) ?_
      refine AOps.p rfl (p_neq rfl rfl) ?_
      refine AOps.nil ?_
      refine AWp.cond rfl (fun c3 => ?_) (fun c3 => ?_)
      · have d3 := c3
        try simp only [inB, Bool.and_eq_true, Bool.or_eq_true, Bool.and_eq_false_iff, Bool.or_eq_false_iff, Bool.not_eq_true', Bool.not_eq_false', decide_eq_true_eq, decide_eq_false_iff_not, Int.not_le, Int.not_lt] at d3
        exact absurd c3 (by rw [hc, chOk_a hok]; simp)
      · have d3 := c3
        try simp only [inB, Bool.and_eq_true, Bool.or_eq_true, Bool.and_eq_false_iff, Bool.or_eq_false_iff, Bool.not_eq_true', Bool.not_eq_false', decide_eq_true_eq, decide_eq_false_iff_not, Int.not_le, Int.not_lt] at d3
        refine AWp.skip ?_
        refine AWp.cut (fun t' H' => H ++ [AObj.row false (ints r), AObj.row false (ints q), AObj.row false (ints ([a])), AObj.row false (ints r), AObj.row false (ints q)] = H' ∧ Sub [(0, .int .i64 (n)), (1, .agg (ints r).toArray), (2, .agg (ints q).toArray), (3, .int .i64 (a)), (5, .pointer (some ⟨H.length + 0, 0, none⟩)), (6, .pointer (some ⟨H.length + 1, 0, none⟩)), (8, .slice none 0 0), (9, .int .i64 (0)), (10, .int .i64 ((bif ((decide (rcode n [r, q] = 0)) && (!(inB a 0 (n - 1)))) then 2 else rcode n [r, q]))), (11, .slice (some ⟨H.length + 2, 0, none⟩) (1) (1)), (12, .pointer (some ⟨H.length + 3, 0, none⟩)), (13, .pointer (some ⟨H.length + 4, 0, none⟩)), (28, .bool ((decide (rcode n [r, q] = 0)) && (!(inB a 0 (n - 1))))), (30, .bool (!decide ((bif ((decide (rcode n [r, q] = 0)) && (!(inB a 0 (n - 1)))) then 2 else rcode n [r, q]) = 0)))] t') ?_ ?_
        · refine DTr.start mix ?_
          refine DTr.p rfl rfl (p_move rfl) ?_
          refine DTr.aI (cells := ints ([a])) (i := H.length + 2) (H' := H ++ [AObj.row false (ints r), AObj.row false (ints q), AObj.row false (ints ([a]))]) rfl rfl (by exact List.length_append) (by exact List.append_assoc _ _ _) (a_buildInts (vs := [(0, .int .i64 (a))]) (xs := [a]) Try.underlying34 Try.sizeOf2 Try.zeroValue2 rfl rfl (by decide) rfl rfl) ?_
          refine DTr.r rfl rfl (r_loadN (vs := ints r) rfl Try.isAgg25 Try.sizeOf25 (by rw [ints_length]; first | rfl | omega | (simp only [List.length_set, List.length_replicate]; omega))) (many_read (row_cells (own_row rfl)) ints_flat) ?_
          refine DTr.r rfl rfl (r_loadN (vs := ints q) rfl Try.isAgg25 Try.sizeOf25 (by rw [ints_length]; first | rfl | omega | (simp only [List.length_set, List.length_replicate]; omega))) (many_read (row_cells (own_row rfl)) ints_flat) ?_
          refine DTr.aI (cells := ints (List.replicate 14 0)) (i := H.length + 3) (H' := H ++ [AObj.row false (ints r), AObj.row false (ints q), AObj.row false (ints ([a])), AObj.row false (ints (List.replicate 14 0))]) rfl rfl (by exact List.length_append) (by exact List.append_assoc _ _ _) (a_alloc Try.zeroValue25 (flat_list rfl)) ?_
          refine DTr.aI (cells := ints (List.replicate 14 0)) (i := H.length + 4) (H' := H ++ [AObj.row false (ints r), AObj.row false (ints q), AObj.row false (ints ([a])), AObj.row false (ints (List.replicate 14 0)), AObj.row false (ints (List.replicate 14 0))]) rfl rfl (by exact List.length_append) (by exact List.append_assoc _ _ _) (a_alloc Try.zeroValue25 (flat_list rfl)) ?_
          refine DTr.p rfl rfl (p_assign rfl) ?_
          refine DTr.s rfl (s_storeAll (H' := H ++ [AObj.row false (ints r), AObj.row false (ints q), AObj.row false (ints ([a])), AObj.row false (ints r), AObj.row false (ints (List.replicate 14 0))]) Try.sizeOf25 rfl rfl ints_one (own_row rfl) (by rw [ints_length]; omega) (by rw [ints_length]; first | rfl | omega) ((set_own _ _ _ _).trans rfl)) (by simp only [List.length_append, List.length_cons, List.length_nil]; omega) ?_
          refine DTr.s rfl (s_storeAll (H' := H ++ [AObj.row false (ints r), AObj.row false (ints q), AObj.row false (ints ([a])), AObj.row false (ints r), AObj.row false (ints q)]) Try.sizeOf25 rfl rfl ints_one (own_row rfl) (by rw [ints_length]; omega) (by rw [ints_length]; first | rfl | omega) ((set_own _ _ _ _).trans rfl)) (by simp only [List.length_append, List.length_cons, List.length_nil]; omega) ?_
          exact DTr.nil ⟨by kernel_rfl, (dyn_one 3 7 (H.length + 1) rfl rfl (fun cs hk c hc => by cases hk; obtain ⟨_, _, h, _⟩ := of_mem_cellsFrom _ _ c hc; exact h) (fun _ h => by cases h) (by dsimp only; rw [hget_own, hget_own]; rfl) (by kernel_rfl)), rfl, Sub.cons' rfl rfl (Sub.cons' rfl rfl (Sub.cons' rfl rfl (Sub.cons' rfl rfl (Sub.cons' rfl rfl (Sub.cons' rfl rfl (Sub.cons' rfl rfl (Sub.cons' rfl rfl (Sub.cons' rfl rfl (Sub.cons' rfl rfl (Sub.cons' rfl rfl (Sub.cons' rfl rfl (Sub.cons' rfl rfl (Sub.cons' rfl rfl (Sub.nil _))))))))))))))⟩
        · rintro t' _ ⟨rfl, hsub⟩
          refine AWp.sub hsub ?_
          refine AWp.block ?_
          refine AWp.round (α := Nat × Nat × Nat × AHeap) (fun (k, i, c, G) => [(0, .int .i64 (n)), (1, .agg (ints r).toArray), (2, .agg (ints q).toArray), (3, .int .i64 (a)), (5, .pointer (some ⟨H.length + 0, 0, none⟩)), (6, .pointer (some ⟨H.length + 1, 0, none⟩)), (8, .slice none 0 0), (9, .int .i64 (0)), (10, .int .i64 ((bif ((decide (rcode n [r, q] = 0)) && (!(inB a 0 (n - 1)))) then 2 else rcode n [r, q]))), (11, .slice (some ⟨i, 0, none⟩) (k + 1) (c)), (12, .pointer (some ⟨H.length + 3, 0, none⟩)), (13, .pointer (some ⟨H.length + 4, 0, none⟩)), (28, .bool ((decide (rcode n [r, q] = 0)) && (!(inB a 0 (n - 1))))), (30, .bool (!decide ((bif ((decide (rcode n [r, q] = 0)) && (!(inB a 0 (n - 1)))) then 2 else rcode n [r, q]) = 0)))]) (fun (k, i, c, G) => G) (fun (k, i, c, G) => (k ≤ chK r q a ∧ Buf (H.length + 2) G (some ⟨i, 0, none⟩) (k + 1) c 1 (ints (chl r q a k)) ∧ c = (if k = 0 then 1 else capU + 1) ∧ i ≠ H.length + 3 ∧ i ≠ H.length + 4) ∧ (∀ j, j < H.length → hget G j = hget H j) ∧ H.length + 2 ≤ G.length ∧ hget G (H.length + 0) = AObj.row false (ints r) ∧ H.length + 0 < G.length ∧ hget G (H.length + 1) = AObj.row false (ints q) ∧ H.length + 1 < G.length ∧ hget G (H.length + 3) = AObj.row false (ints (rw_ [r, q] (k % 2))) ∧ H.length + 3 < G.length ∧ hget G (H.length + 4) = AObj.row false (ints (rw_ [r, q] ((k + 1) % 2))) ∧ H.length + 4 < G.length) (fun (k, i, c, G) => chK r q a - k) (0, H.length + 2, 1, H ++ [AObj.row false (ints r), AObj.row false (ints q), AObj.row false (ints ([a])), AObj.row false (ints r), AObj.row false (ints q)]) ⟨⟨by omega, Buf.new (by omega) (own_row rfl) rfl (.inr ⟨rfl, by decide⟩), rfl, by omega, by omega⟩, (fun j hj => hget_append_lt hj), (by simp only [List.length_append, List.length_cons, List.length_nil]; omega), own_row rfl, (by simp only [List.length_append, List.length_cons, List.length_nil]; omega), own_row rfl, (by simp only [List.length_append, List.length_cons, List.length_nil]; omega), own_row rfl, (by simp only [List.length_append, List.length_cons, List.length_nil]; omega), own_row rfl, (by simp only [List.length_append, List.length_cons, List.length_nil]; omega)⟩ (Sub.cons' rfl rfl (Sub.cons' rfl rfl (Sub.cons' rfl rfl (Sub.cons' rfl rfl (Sub.cons' rfl rfl (Sub.cons' rfl rfl (Sub.cons' rfl rfl (Sub.cons' rfl rfl (Sub.cons' rfl rfl (Sub.cons' rfl rfl (Sub.cons' rfl rfl (Sub.cons' rfl rfl (Sub.cons' rfl rfl (Sub.cons' rfl rfl (Sub.nil _))))))))))))))) rfl ?_
          rintro ⟨k, i, c, G⟩ ⟨hInv0, holdG, hbG, fG_0, gG_0, fG_1, gG_1, fG_2, gG_2, fG_3, gG_3⟩
          obtain ⟨hk, hB, hcap, hne0, hne1⟩ := hInv0
          have fB := (Buf.row hB).1
          have lB := row_lt fB
          have hbi := (Buf.row hB).2.1
          have hv := chl_last r q a k
          have hin := chn_in hok k
          have hin1 := chn_in hok (k + 1)
          have hcl := chl_length r q a k
          have hlw : (rw_ [r, q] (k % 2)).length = 14 := rw_len (all_two hr hq) (Nat.mod_lt _ (by decide))
          have hlw2 : (rw_ [r, q] ((k + 1) % 2)).length = 14 := rw_len (all_two hr hq) (Nat.mod_lt _ (by decide))
          have hvn : rd (rw_ [r, q] (k % 2)) (rd (chl r q a k) k).toNat = chn r q a (k + 1) := by rw [hv]; rfl
          refine AWp.sub (t' := [(0, .int .i64 (n)), (1, .agg (ints r).toArray), (2, .agg (ints q).toArray), (3, .int .i64 (a)), (5, .pointer (some ⟨H.length + 0, 0, none⟩)), (6, .pointer (some ⟨H.length + 1, 0, none⟩)), (8, .slice none 0 0), (9, .int .i64 (0)), (10, .int .i64 ((bif ((decide (rcode n [r, q] = 0)) && (!(inB a 0 (n - 1)))) then 2 else rcode n [r, q]))), (11, .slice (some ⟨i, 0, none⟩) (k + 1) (c)), (12, .pointer (some ⟨H.length + 3, 0, none⟩)), (13, .pointer (some ⟨H.length + 4, 0, none⟩)), (28, .bool ((decide (rcode n [r, q] = 0)) && (!(inB a 0 (n - 1))))), (30, .bool (!decide ((bif ((decide (rcode n [r, q] = 0)) && (!(inB a 0 (n - 1)))) then 2 else rcode n [r, q]) = 0)))]) (Sub.refl _) ?_
          refine AWp.heap (H' := G) rfl ?_
          refine AWp.block ?_
          refine AWp.seq ?_
          refine AWp.region ?_
          refine AOps.p rfl (p_move rfl) ?_
          refine AOps.p rfl (p_move rfl) ?_
          refine AOps.p rfl (p_len_slice rfl Try.underlying34) ?_
          refine AOps.p rfl (p_sub rfl rfl (by rw [wr64 (by omega) (by omega)] <;> omega)) ?_
          refine AOps.p rfl (s_indexSl (q := k) Try.underlying34 Try.sizeOf2 rfl rfl (by omega) (by omega) (by omega)) ?_
          refine AOps.c rfl (s_load Try.isAgg2 rfl (row_cell (fB) (ints_get (by omega)))) ?_
          refine AOps.p rfl (p_assign rfl) ?_
          refine AOps.nil ?_
          refine AWp.seq ?_
          refine AWp.region ?_
          refine AOps.p rfl (p_move rfl) ?_
          refine AOps.p rfl (s_indexArr (q := (rd (chl r q a k) k).toNat) Try.underlying25 Try.sizeOf2 rfl rfl (by omega) (by omega) (by omega)) ?_
          refine AOps.c rfl (s_load Try.isAgg2 rfl (row_cell (fG_2) (ints_get (by omega)))) ?_
          refine AOps.p rfl (p_assign rfl) ?_
          refine AOps.nil ?_
          refine AWp.seq ?_
          refine AWp.cut (fun t' H' => G = H' ∧ Sub [(0, .int .i64 (n)), (1, .agg (ints r).toArray), (2, .agg (ints q).toArray), (3, .int .i64 (a)), (5, .pointer (some ⟨H.length + 0, 0, none⟩)), (6, .pointer (some ⟨H.length + 1, 0, none⟩)), (8, .slice none 0 0), (9, .int .i64 (0)), (10, .int .i64 ((bif ((decide (rcode n [r, q] = 0)) && (!(inB a 0 (n - 1)))) then 2 else rcode n [r, q]))), (11, .slice (some ⟨i, 0, none⟩) (k + 1) (c)), (12, .pointer (some ⟨H.length + 3, 0, none⟩)), (13, .pointer (some ⟨H.length + 4, 0, none⟩)), (14, .int .i64 (rd (chl r q a k) k)), (15, .int .i64 (rd (rw_ [r, q] (k % 2)) ((rd (chl r q a k) k).toNat))), (28, .bool ((decide (rcode n [r, q] = 0)) && (!(inB a 0 (n - 1))))), (30, .bool (!decide ((bif ((decide (rcode n [r, q] = 0)) && (!(inB a 0 (n - 1)))) then 2 else rcode n [r, q]) = 0))), (52, .bool ((decide (rd (rw_ [r, q] (k % 2)) ((rd (chl r q a k) k).toNat) = a)) || (decide (rd (rw_ [r, q] (k % 2)) ((rd (chl r q a k) k).toNat) = rd (chl r q a k) k))))] t') ?_ ?_
          · refine AWp.region ?_
            refine AOps.p rfl (p_move rfl) ?_
            refine AOps.p rfl (p_move rfl) ?_
            refine AOps.p rfl (p_eql rfl rfl) ?_
            refine AOps.p rfl (p_move rfl) ?_
            refine AOps.cases (d := 48) rfl (fun c4 => ?_) (fun c4 => ?_)
            · have d4 := c4
              try simp only [inB, Bool.and_eq_true, Bool.or_eq_true, Bool.and_eq_false_iff, Bool.or_eq_false_iff, Bool.not_eq_true', Bool.not_eq_false', decide_eq_true_eq, decide_eq_false_iff_not, Int.not_le, Int.not_lt] at d4
              refine AOps.gn rfl rfl rfl ?_
              refine AOps.gn rfl rfl rfl ?_
              refine AOps.gn rfl rfl rfl ?_
              refine AOps.p rfl (p_pickT rfl rfl) ?_
              refine AOps.nil ?_
              exact ⟨rfl, Sub.cons' rfl rfl (Sub.cons' rfl rfl (Sub.cons' rfl rfl (Sub.cons' rfl rfl (Sub.cons' rfl rfl (Sub.cons' rfl rfl (Sub.cons' rfl rfl (Sub.cons' rfl rfl (Sub.cons' rfl rfl (Sub.cons' rfl rfl (Sub.cons' rfl rfl (Sub.cons' rfl rfl (Sub.cons' rfl rfl (Sub.cons' rfl rfl (Sub.cons' rfl rfl (Sub.cons' rfl rfl (Sub.cons' rfl (bool_eq (by simp only [c4, Bool.true_and, Bool.false_and, Bool.and_true, Bool.and_false, Bool.true_or, Bool.false_or, Bool.or_true, Bool.or_false, Bool.not_true, Bool.not_false, cond_true, cond_false])) (Sub.nil _)))))))))))))))))⟩
            · have d4 := c4
              try simp only [inB, Bool.and_eq_true, Bool.or_eq_true, Bool.and_eq_false_iff, Bool.or_eq_false_iff, Bool.not_eq_true', Bool.not_eq_false', decide_eq_true_eq, decide_eq_false_iff_not, Int.not_le, Int.not_lt] at d4
              refine AOps.gp rfl rfl rfl (p_move rfl) ?_
              refine AOps.gp rfl rfl rfl (p_move rfl) ?_
              refine AOps.gp rfl rfl rfl (p_eql rfl rfl) ?_
              refine AOps.p rfl (p_pickF rfl rfl) ?_
              refine AOps.nil ?_
              exact ⟨rfl, Sub.cons' rfl rfl (Sub.cons' rfl rfl (Sub.cons' rfl rfl (Sub.cons' rfl rfl (Sub.cons' rfl rfl (Sub.cons' rfl rfl (Sub.cons' rfl rfl (Sub.cons' rfl rfl (Sub.cons' rfl rfl (Sub.cons' rfl rfl (Sub.cons' rfl rfl (Sub.cons' rfl rfl (Sub.cons' rfl rfl (Sub.cons' rfl rfl (Sub.cons' rfl rfl (Sub.cons' rfl rfl (Sub.cons' rfl (bool_eq (by simp only [c4, Bool.true_and, Bool.false_and, Bool.and_true, Bool.and_false, Bool.true_or, Bool.false_or, Bool.or_true, Bool.or_false, Bool.not_true, Bool.not_false, cond_true, cond_false])) (Sub.nil _)))))))))))))))))⟩
          · rintro t' _ ⟨rfl, hsub⟩
            refine AWp.sub hsub ?_
            refine AWp.cond rfl (fun c5 => ?_) (fun c5 => ?_)
            · have d5 := c5
              try simp only [inB, Bool.and_eq_true, Bool.or_eq_true, Bool.and_eq_false_iff, Bool.or_eq_false_iff, Bool.not_eq_true', Bool.not_eq_false', decide_eq_true_eq, decide_eq_false_iff_not, Int.not_le, Int.not_lt] at d5
              refine AWp.seq ?_
              refine AWp.region ?_
              refine AOps.p rfl (p_move rfl) ?_
              refine AOps.p rfl (p_assign rfl) ?_
              refine AOps.p rfl (p_assign rfl) ?_
              refine AOps.nil ?_
              refine AWp.ret ?_
              refine ends2 (.inr rfl) (res2 rfl (rv_tmp rfl) (rv_tmp rfl)) ?_
              -- return 1: .tuple #[.slice (some ⟨i, 0, none⟩) (k + 1) (c), .int .i64 (0)]
              have hK := chK_at hok hk (stp_of c5)
              have hC : chC r q a = c := by unfold chC; rw [hK, hcap]
              rw [hC, hK]
              exact Fin.one (k := i) holdG (by omega) fB ints_flat (ren_tup2 ren_slice (.flat _ (.int _ _)))
            · have d5 := c5
              try simp only [inB, Bool.and_eq_true, Bool.or_eq_true, Bool.and_eq_false_iff, Bool.or_eq_false_iff, Bool.not_eq_true', Bool.not_eq_false', decide_eq_true_eq, decide_eq_false_iff_not, Int.not_le, Int.not_lt] at d5
              refine AWp.skip ?_
              refine AWp.seq ?_
              refine AWp.region ?_
              refine AOps.p rfl (p_move rfl) ?_
              refine AOps.p rfl (p_move rfl) ?_
              refine AOps.c rfl (s_buildInts (i := G.length + 0) (vs := [(0, .int .i64 (rd (rw_ [r, q] (k % 2)) ((rd (chl r q a k) k).toNat)))]) (xs := [rd (rw_ [r, q] (k % 2)) ((rd (chl r q a k) k).toNat)]) Try.underlying34 Try.sizeOf2 Try.zeroValue2 rfl rfl (by decide) rfl rfl rfl rfl) ?_
              refine AOps.c rfl (s_append (i' := (G ++ [AObj.row false (ints ([rd (rw_ [r, q] (k % 2)) ((rd (chl r q a k) k).toNat)]))]).length) (by_ := 8) (us := ints (chl r q a k)) (vs := ints ([rd (rw_ [r, q] (k % 2)) ((rd (chl r q a k) k).toNat)])) (k := 1) Try.underlying34 Try.underlying34 Try.typeInfo2 Try.sizeOf2 Try.zeroValue2 rfl rfl rfl rfl rfl (Buf.more hB) (own_row rfl) (by rw [ints_length]; first | rfl | omega) (by omega) ints_one ⟨by omega, by decide⟩ rfl (congrArg (fun c => kill _ _ ++ [AObj.row false c]) (ints_app _ _))) ?_
              obtain ⟨G1, hG1⟩ : ∃ Gx_ : AHeap, Gx_ = kill (some ⟨i, 0, none⟩) (G ++ [AObj.row false (ints ([rd (rw_ [r, q] (k % 2)) ((rd (chl r q a k) k).toNat)]))]) ++ [AObj.row false (ints ((chl r q a k) ++ [rd (rw_ [r, q] (k % 2)) ((rd (chl r q a k) k).toNat)]))] := ⟨_, rfl⟩
              have lG1 : G1.length = G.length + 1 + 1 := by rw [hG1, append_len]; rw [List.length_append]; rfl
              have oG1 : Buf (H.length + 2) (G ++ [AObj.row false (ints ([rd (rw_ [r, q] (k % 2)) ((rd (chl r q a k) k).toNat)]))]) (some ⟨i, 0, none⟩) (k + 1) (c) 1 (ints (chl r q a k)) := (Buf.more hB)
              have kG1_1 : hget G1 (H.length + 0) = AObj.row false (ints r) := by rw [hG1]; exact (append_get2 (by have := gG_0; simp only [List.length_append, List.length_cons, List.length_nil]; omega) (by first | exact Buf.below oG1 (by omega) | (intro x e; cases e; dsimp only; omega))).trans ((hget_append_lt gG_0).trans (fG_0))
              have mG1_1 : H.length + 0 < G1.length := by have := gG_0; omega
              have kG1_2 : hget G1 (H.length + 1) = AObj.row false (ints q) := by rw [hG1]; exact (append_get2 (by have := gG_1; simp only [List.length_append, List.length_cons, List.length_nil]; omega) (by first | exact Buf.below oG1 (by omega) | (intro x e; cases e; dsimp only; omega))).trans ((hget_append_lt gG_1).trans (fG_1))
              have mG1_2 : H.length + 1 < G1.length := by have := gG_1; omega
              have kG1_3 : hget G1 (H.length + 3) = AObj.row false (ints (rw_ [r, q] (k % 2))) := by rw [hG1]; exact (append_get2 (by have := gG_2; simp only [List.length_append, List.length_cons, List.length_nil]; omega) (by intro x e; cases e; first | assumption | omega)).trans ((hget_append_lt gG_2).trans (fG_2))
              have mG1_3 : H.length + 3 < G1.length := by have := gG_2; omega
              have kG1_4 : hget G1 (H.length + 4) = AObj.row false (ints (rw_ [r, q] ((k + 1) % 2))) := by rw [hG1]; exact (append_get2 (by have := gG_3; simp only [List.length_append, List.length_cons, List.length_nil]; omega) (by intro x e; cases e; first | assumption | omega)).trans ((hget_append_lt gG_3).trans (fG_3))
              have mG1_4 : H.length + 4 < G1.length := by have := gG_3; omega
              have holdG1 : ∀ j, j < H.length → hget G1 j = hget H j := fun j hj => by rw [hG1]; exact (append_get2 (by simp only [List.length_append, List.length_cons, List.length_nil]; omega) (Buf.below oG1 (by omega))).trans ((fun j hj => (hget_append_lt (by omega)).trans (holdG j hj)) j hj)
              have nG1 : hget G1 ((G ++ [AObj.row false (ints ([rd (rw_ [r, q] (k % 2)) ((rd (chl r q a k) k).toNat)]))]).length) = AObj.row false (ints ((chl r q a k) ++ [rd (rw_ [r, q] (k % 2)) ((rd (chl r q a k) k).toNat)])) := by rw [hG1]; exact append_new
              have eG1 : (G ++ [AObj.row false (ints ([rd (rw_ [r, q] (k % 2)) ((rd (chl r q a k) k).toNat)]))]).length = G.length + 1 := List.length_append
              have qG1 : (G ++ [AObj.row false (ints ([rd (rw_ [r, q] (k % 2)) ((rd (chl r q a k) k).toNat)]))]).length < G1.length := by omega
              have bG1 : Buf (H.length + 2) G1 (some ⟨(G ++ [AObj.row false (ints ([rd (rw_ [r, q] (k % 2)) ((rd (chl r q a k) k).toNat)]))]).length, 0, none⟩) (k + 1 + 1) (capU + 1) 1 (ints ((chl r q a k) ++ [rd (rw_ [r, q] (k % 2)) ((rd (chl r q a k) k).toNat)])) := Buf.new (by omega) nG1 (by simp only [ints_length, List.length_append, List.length_cons, List.length_nil]; omega) (.inl rfl)
              refine AOps.heap (H' := G1) hG1.symm ?_
              refine AOps.p rfl (p_assign rfl) ?_
              refine AOps.nil ?_
              refine AWp.region ?_
              refine AOps.c rfl (s_loadN (vs := ints (rw_ [r, q] ((k + 1) % 2))) Try.isAgg25 Try.sizeOf25 rfl (by rw [ints_length]; first | rfl | omega | (simp only [List.length_set, List.length_replicate]; omega)) (row_cells (kG1_4))) ?_
              refine AOps.c rfl (s_loadN (vs := ints (rw_ [r, q] (k % 2))) Try.isAgg25 Try.sizeOf25 rfl (by rw [ints_length]; first | rfl | omega | (simp only [List.length_set, List.length_replicate]; omega)) (row_cells (kG1_3))) ?_
              refine AOps.s (s_storeAll Try.sizeOf25 rfl rfl ints_one (kG1_3) (by rw [ints_length]; first | exact (by first | assumption | exact rw_len (by assumption) (by omega)) | omega) (by rw [ints_length]; first | rfl | assumption | omega) rfl) ?_
              obtain ⟨G2, hG2⟩ : ∃ Gx_ : AHeap, Gx_ = (G1).set (H.length + 3) (AObj.row false (ints (rw_ [r, q] ((k + 1) % 2)))) := ⟨_, rfl⟩
              have lG2 : G2.length = G1.length := by rw [hG2, List.length_set]
              have kG2_1 : hget G2 (H.length + 0) = AObj.row false (ints r) := by rw [hG2]; exact (hget_set_other _ (by omega)).trans (kG1_1)
              have mG2_1 : H.length + 0 < G2.length := by have := mG1_1; omega
              have kG2_2 : hget G2 (H.length + 1) = AObj.row false (ints q) := by rw [hG2]; exact (hget_set_other _ (by omega)).trans (kG1_2)
              have mG2_2 : H.length + 1 < G2.length := by have := mG1_2; omega
              have kG2_3 : hget G2 (H.length + 3) = AObj.row false (ints (rw_ [r, q] ((k + 1) % 2))) := by rw [hG2]; exact hget_set_same _ (by have := mG1_3; omega)
              have mG2_3 : H.length + 3 < G2.length := by have := mG1_3; omega
              have kG2_4 : hget G2 (H.length + 4) = AObj.row false (ints (rw_ [r, q] ((k + 1) % 2))) := by rw [hG2]; exact (hget_set_other _ (by omega)).trans (kG1_4)
              have mG2_4 : H.length + 4 < G2.length := by have := mG1_4; omega
              have kG2_5 : hget G2 ((G ++ [AObj.row false (ints ([rd (rw_ [r, q] (k % 2)) ((rd (chl r q a k) k).toNat)]))]).length) = AObj.row false (ints ((chl r q a k) ++ [rd (rw_ [r, q] (k % 2)) ((rd (chl r q a k) k).toNat)])) := by rw [hG2]; exact (hget_set_other _ (by omega)).trans (nG1)
              have mG2_5 : (G ++ [AObj.row false (ints ([rd (rw_ [r, q] (k % 2)) ((rd (chl r q a k) k).toNat)]))]).length < G2.length := by have := qG1; omega
              have holdG2 : ∀ j, j < H.length → hget G2 j = hget H j := fun j hj => by rw [hG2]; exact (hget_set_other _ (by omega)).trans (holdG1 j hj)
              refine AOps.heap (H' := G2) hG2.symm ?_
              refine AOps.s (s_storeAll Try.sizeOf25 rfl rfl ints_one (kG2_4) (by rw [ints_length]; first | exact (by first | assumption | exact rw_len (by assumption) (by omega)) | omega) (by rw [ints_length]; first | rfl | assumption | omega) rfl) ?_
              obtain ⟨G3, hG3⟩ : ∃ Gx_ : AHeap, Gx_ = (G2).set (H.length + 4) (AObj.row false (ints (rw_ [r, q] (k % 2)))) := ⟨_, rfl⟩
              have lG3 : G3.length = G2.length := by rw [hG3, List.length_set]
              have kG3_1 : hget G3 (H.length + 0) = AObj.row false (ints r) := by rw [hG3]; exact (hget_set_other _ (by omega)).trans (kG2_1)
              have mG3_1 : H.length + 0 < G3.length := by have := mG2_1; omega
              have kG3_2 : hget G3 (H.length + 1) = AObj.row false (ints q) := by rw [hG3]; exact (hget_set_other _ (by omega)).trans (kG2_2)
              have mG3_2 : H.length + 1 < G3.length := by have := mG2_2; omega
              have kG3_3 : hget G3 (H.length + 3) = AObj.row false (ints (rw_ [r, q] ((k + 1) % 2))) := by rw [hG3]; exact (hget_set_other _ (by omega)).trans (kG2_3)
              have mG3_3 : H.length + 3 < G3.length := by have := mG2_3; omega
              have kG3_4 : hget G3 (H.length + 4) = AObj.row false (ints (rw_ [r, q] (k % 2))) := by rw [hG3]; exact hget_set_same _ (by have := mG2_4; omega)
              have mG3_4 : H.length + 4 < G3.length := by have := mG2_4; omega
              have kG3_5 : hget G3 ((G ++ [AObj.row false (ints ([rd (rw_ [r, q] (k % 2)) ((rd (chl r q a k) k).toNat)]))]).length) = AObj.row false (ints ((chl r q a k) ++ [rd (rw_ [r, q] (k % 2)) ((rd (chl r q a k) k).toNat)])) := by rw [hG3]; exact (hget_set_other _ (by omega)).trans (kG2_5)
              have mG3_5 : (G ++ [AObj.row false (ints ([rd (rw_ [r, q] (k % 2)) ((rd (chl r q a k) k).toNat)]))]).length < G3.length := by have := mG2_5; omega
              have holdG3 : ∀ j, j < H.length → hget G3 j = hget H j := fun j hj => by rw [hG3]; exact (hget_set_other _ (by omega)).trans (holdG2 j hj)
              refine AOps.heap (H' := G3) hG3.symm ?_
              refine AOps.nil ?_
              have hst : stp r q a k = false := stp_of c5
              have hB2 : Buf (H.length + 2) G3 (some ⟨(G ++ [AObj.row false (ints ([rd (rw_ [r, q] (k % 2)) ((rd (chl r q a k) k).toNat)]))]).length, 0, none⟩) (k + 1 + 1) (capU + 1) 1 (ints (chl r q a (k + 1))) := Buf.new (by omega) (by rw [chl_succ]; exact (kG3_5.trans (congrArg (fun x => AObj.row false (ints (chl r q a k ++ [x]))) (by rw [hv]; rfl)))) (by rw [ints_length, chl_length]; omega) (.inl rfl)
              exact ⟨(k + 1, (G ++ [AObj.row false (ints ([rd (rw_ [r, q] (k % 2)) ((rd (chl r q a k) k).toNat)]))]).length, capU + 1, G3), ⟨⟨chK_lt hok hk hst, hB2, (if_neg (by omega)).symm, by omega, by omega⟩, holdG3, (by omega), kG3_1, mG3_1, kG3_2, mG3_2, kG3_3, mG3_3, (by rw [show (k + 1 + 1) % 2 = k % 2 by omega]; exact kG3_4), mG3_4⟩, by have := chK_lt hok hk hst; show chK r q a - (k + 1) < chK r q a - k; omega, Sub.cons' rfl rfl (Sub.cons' rfl rfl (Sub.cons' rfl rfl (Sub.cons' rfl rfl (Sub.cons' rfl rfl (Sub.cons' rfl rfl (Sub.cons' rfl rfl (Sub.cons' rfl rfl (Sub.cons' rfl rfl (Sub.cons' rfl (by first | rfl | (exact int_eq (by omega))) (Sub.cons' rfl rfl (Sub.cons' rfl rfl (Sub.cons' rfl rfl (Sub.cons' rfl rfl (Sub.nil _)))))))))))))), rfl⟩

theorem sChain_no (H : AHeap) (n : Int) (r q : List Int) (a : Int) (hr : r.length = 14) (hq : q.length = 14) (hok : chOk n r q a = false) : ACall Try.prog 19 ([.int .i64 (n), .agg (ints r).toArray, .agg (ints q).toArray, .int .i64 (a)]) H (.tuple #[.slice none 0 0, .int .i64 2]) H := by
  refine ACall.body (N := 65) [(0, .int .i64 (n)), (1, .agg (ints r).toArray), (2, .agg (ints q).toArray), (3, .int .i64 (a))] Try.func19 rfl rfl rfl rfl ?_
  refine AWp.seq ?_
  refine AWp.region ?_
  refine AOps.c rfl (s_box (i := H.length + 0) (cs := ints r) rfl rfl rfl rfl) ?_
  refine AOps.c rfl (s_box (i := H.length + 1) (cs := ints q) rfl (by exact List.length_append) rfl (by exact List.append_assoc _ _ _)) ?_
  refine AOps.p rfl (p_assign rfl) ?_
  refine AOps.p rfl (p_assign rfl) ?_
  refine AOps.nil ?_
  refine AWp.seq ?_
  refine AWp.region ?_
  refine AOps.p rfl (p_move rfl) ?_
  refine AOps.c rfl (s_loadN (vs := ints r) Try.isAgg25 Try.sizeOf25 rfl (by rw [ints_length]; first | rfl | omega | (simp only [List.length_set, List.length_replicate]; omega)) (row_cells (own_row rfl))) ?_
  refine AOps.c rfl (s_loadN (vs := ints q) Try.isAgg25 Try.sizeOf25 rfl (by rw [ints_length]; first | rfl | omega | (simp only [List.length_set, List.length_replicate]; omega)) (row_cells (own_row rfl))) ?_
  refine AOps.c rfl (s_build2 (i := H.length + 2) (zr := List.replicate 14 0) Try.underlying45 Try.sizeOf25 Try.zeroValue25 rfl rfl (by decide) (by decide) rfl rfl (by first | assumption | exact rw_len (by assumption) (by omega)) (by first | assumption | exact rw_len (by assumption) (by omega)) (by exact List.length_append) (by exact List.append_assoc _ _ _)) ?_
  refine AOps.c rfl (o_call (vs := [.int .i64 (n), .slice (some ⟨H.length + 2, 0, none⟩) (2) (2)]) rfl Try.call36 (l02Rounds_ok _ _ _ _ _ _ (own_row rfl) (all_two (by first | assumption | exact rw_len (by assumption) (by omega)) (by first | assumption | exact rw_len (by assumption) (by omega))) (by simp))) ?_
  refine AOps.p rfl (p_assign rfl) ?_
  refine AOps.nil ?_
  refine AWp.seq ?_
  refine AWp.cut (fun t' H' => H ++ [AObj.row false (ints r), AObj.row false (ints q), AObj.row false (ints ([r, q]).flatten)] = H' ∧ Sub [(0, .int .i64 (n)), (1, .agg (ints r).toArray), (2, .agg (ints q).toArray), (3, .int .i64 (a)), (5, .pointer (some ⟨H.length + 0, 0, none⟩)), (6, .pointer (some ⟨H.length + 1, 0, none⟩)), (8, .slice none 0 0), (9, .int .i64 (0)), (10, .int .i64 (rcode n ([r, q]))), (29, .bool ((decide (rcode n ([r, q]) = 0)) && (!(inB a 0 (n - 1)))))] t') ?_ ?_
  · refine AWp.region ?_
    refine AOps.p rfl (p_move rfl) ?_
    refine AOps.p rfl (p_eql rfl rfl) ?_
    refine AOps.p rfl (p_move rfl) ?_
    refine AOps.cases (d := 23) rfl (fun c1 => ?_) (fun c1 => ?_)
    · have d1 := c1
      try simp only [inB, Bool.and_eq_true, Bool.or_eq_true, Bool.and_eq_false_iff, Bool.or_eq_false_iff, Bool.not_eq_true', Bool.not_eq_false', decide_eq_true_eq, decide_eq_false_iff_not, Int.not_le, Int.not_lt] at d1
      have hn := rcode_n d1
      refine AOps.gp rfl rfl rfl (p_move rfl) ?_
      refine AOps.gp rfl rfl rfl (p_move rfl) ?_
      refine AOps.gp rfl rfl rfl (p_sub rfl rfl (wr64 (by omega) (by omega))) ?_
      refine AOps.gc rfl rfl rfl (o_call (vs := [.int .i64 (a), .int .i64 (0), .int .i64 (n - 1)]) rfl Try.call34 (l01In_ok _ _ _ _)) ?_
      refine AOps.gp rfl rfl rfl (p_not rfl) ?_
      refine AOps.p rfl (p_pickT rfl rfl) ?_
      refine AOps.nil ?_
      exact ⟨rfl, Sub.cons' rfl rfl (Sub.cons' rfl rfl (Sub.cons' rfl rfl (Sub.cons' rfl rfl (Sub.cons' rfl rfl (Sub.cons' rfl rfl (Sub.cons' rfl rfl (Sub.cons' rfl rfl (Sub.cons' rfl rfl (Sub.cons' rfl (bool_eq (by simp only [c1, Bool.true_and, Bool.false_and, Bool.and_true, Bool.and_false, Bool.true_or, Bool.false_or, Bool.or_true, Bool.or_false, Bool.not_true, Bool.not_false, cond_true, cond_false])) (Sub.nil _))))))))))⟩
    · have d1 := c1
      try simp only [inB, Bool.and_eq_true, Bool.or_eq_true, Bool.and_eq_false_iff, Bool.or_eq_false_iff, Bool.not_eq_true', Bool.not_eq_false', decide_eq_true_eq, decide_eq_false_iff_not, Int.not_le, Int.not_lt] at d1
      refine AOps.gn rfl rfl rfl ?_
      refine AOps.gn rfl rfl rfl ?_
      refine AOps.gn rfl rfl rfl ?_
      refine AOps.gn rfl rfl rfl ?_
      refine AOps.gn rfl rfl rfl ?_
      refine AOps.p rfl (p_pickF rfl rfl) ?_
      refine AOps.nil ?_
      exact ⟨rfl, Sub.cons' rfl rfl (Sub.cons' rfl rfl (Sub.cons' rfl rfl (Sub.cons' rfl rfl (Sub.cons' rfl rfl (Sub.cons' rfl rfl (Sub.cons' rfl rfl (Sub.cons' rfl rfl (Sub.cons' rfl rfl (Sub.cons' rfl (bool_eq (by simp only [c1, Bool.true_and, Bool.false_and, Bool.and_true, Bool.and_false, Bool.true_or, Bool.false_or, Bool.or_true, Bool.or_false, Bool.not_true, Bool.not_false, cond_true, cond_false])) (Sub.nil _))))))))))⟩
  · rintro t' _ ⟨rfl, hsub⟩
    refine AWp.sub hsub ?_
    refine AWp.cutQ (fun t' H' => H ++ [AObj.row false (ints r), AObj.row false (ints q), AObj.row false (ints ([r, q]).flatten)] = H' ∧ Sub [(0, .int .i64 (n)), (1, .agg (ints r).toArray), (2, .agg (ints q).toArray), (3, .int .i64 (a)), (5, .pointer (some ⟨H.length + 0, 0, none⟩)), (6, .pointer (some ⟨H.length + 1, 0, none⟩)), (8, .slice none 0 0), (9, .int .i64 (0)), (10, .int .i64 ((bif ((decide (rcode n ([r, q]) = 0)) && (!(inB a 0 (n - 1)))) then 2 else rcode n ([r, q])))), (29, .bool ((decide (rcode n ([r, q]) = 0)) && (!(inB a 0 (n - 1)))))] t') ?_ ?_
    · refine AWp.cond rfl (fun c2 => ?_) (fun c2 => ?_)
      · have d2 := c2
        try simp only [inB, Bool.and_eq_true, Bool.or_eq_true, Bool.and_eq_false_iff, Bool.or_eq_false_iff, Bool.not_eq_true', Bool.not_eq_false', decide_eq_true_eq, decide_eq_false_iff_not, Int.not_le, Int.not_lt] at d2
        refine AWp.region ?_
        refine AOps.p rfl (p_assign rfl) ?_
        refine AOps.nil ?_
        exact ⟨rfl, Sub.cons' rfl rfl (Sub.cons' rfl rfl (Sub.cons' rfl rfl (Sub.cons' rfl rfl (Sub.cons' rfl rfl (Sub.cons' rfl rfl (Sub.cons' rfl rfl (Sub.cons' rfl rfl (Sub.cons' rfl (by rw [c2]; rfl) (Sub.cons' rfl rfl (Sub.nil _))))))))))⟩
      · have d2 := c2
        try simp only [inB, Bool.and_eq_true, Bool.or_eq_true, Bool.and_eq_false_iff, Bool.or_eq_false_iff, Bool.not_eq_true', Bool.not_eq_false', decide_eq_true_eq, decide_eq_false_iff_not, Int.not_le, Int.not_lt] at d2
        refine AWp.skip ?_
        exact ⟨rfl, Sub.cons' rfl rfl (Sub.cons' rfl rfl (Sub.cons' rfl rfl (Sub.cons' rfl rfl (Sub.cons' rfl rfl (Sub.cons' rfl rfl (Sub.cons' rfl rfl (Sub.cons' rfl rfl (Sub.cons' rfl (by rw [c2]; rfl) (Sub.cons' rfl rfl (Sub.nil _))))))))))⟩
    · rintro t' _ ⟨rfl, hsub⟩
      refine AWp.sub hsub ?_
      refine AWp.seq ?_
      refine AWp.seq ?_
      refine AWp.region ?_
      refine AOps.p rfl (p_move rfl) ?_
      refine AOps.p rfl (p_neq rfl rfl) ?_
      refine AOps.nil ?_
      refine AWp.cond rfl (fun c3 => ?_) (fun c3 => ?_)
      · have d3 := c3
        try simp only [inB, Bool.and_eq_true, Bool.or_eq_true, Bool.and_eq_false_iff, Bool.or_eq_false_iff, Bool.not_eq_true', Bool.not_eq_false', decide_eq_true_eq, decide_eq_false_iff_not, Int.not_le, Int.not_lt] at d3
        refine AWp.seq ?_
        refine AWp.region ?_
        refine AOps.p rfl (p_move rfl) ?_
        refine AOps.p rfl (p_assign rfl) ?_
        refine AOps.p rfl (p_assign rfl) ?_
        refine AOps.nil ?_
        refine AWp.ret ?_
        refine ends (.inr rfl) (res2 rfl (rv_tmp rfl) (rv_tmp rfl)) ?_ (Fin.dropOwn (flatB_ok rfl))
        -- return 1: .tuple #[.slice none 0 0, .int .i64 ((bif ((decide (rcode n ([r, q]) = 0)) && (!(inB a 0 (n - 1)))) then 2 else rcode n ([r, q])))]
        exact by rw [chOk_two hok]
      · have d3 := c3
        try simp only [inB, Bool.and_eq_true, Bool.or_eq_true, Bool.and_eq_false_iff, Bool.or_eq_false_iff, Bool.not_eq_true', Bool.not_eq_false', decide_eq_true_eq, decide_eq_false_iff_not, Int.not_le, Int.not_lt] at d3
        exact absurd c3 (by rw [chOk_two hok]; simp)

theorem iChain_no (H : AHeap) (n : Int) (r q : List Int) (a : Int) (hr : r.length = 14) (hq : q.length = 14) (hok : chOk n r q a = false) : ACall Try.prog 20 ([.int .i64 (n), .agg (ints r).toArray, .agg (ints q).toArray, .int .i64 (a)]) H (.tuple #[.slice none 0 0, .int .i64 2]) H := by
  refine ACall.body (N := 60) [(0, .int .i64 (n)), (1, .agg (ints r).toArray), (2, .agg (ints q).toArray), (3, .int .i64 (a))] Try.func20 rfl rfl rfl rfl ?_
  refine AWp.seq ?_
  refine AWp.region ?_
  refine AOps.c rfl (s_box (i := H.length + 0) (cs := ints r) rfl rfl rfl rfl) ?_
  refine AOps.c rfl (s_box (i := H.length + 1) (cs := ints q) rfl (by exact List.length_append) rfl (by exact List.append_assoc _ _ _)) ?_
  refine AOps.p rfl (p_assign rfl) ?_
  refine AOps.p rfl (p_assign rfl) ?_
  refine AOps.nil ?_
  refine AWp.seq ?_
  refine AWp.region ?_
  refine AOps.p rfl (p_move rfl) ?_
  refine AOps.c rfl (s_loadN (vs := ints r) Try.isAgg25 Try.sizeOf25 rfl (by rw [ints_length]; first | rfl | omega | (simp only [List.length_set, List.length_replicate]; omega)) (row_cells (own_row rfl))) ?_
  refine AOps.c rfl (s_loadN (vs := ints q) Try.isAgg25 Try.sizeOf25 rfl (by rw [ints_length]; first | rfl | omega | (simp only [List.length_set, List.length_replicate]; omega)) (row_cells (own_row rfl))) ?_
  refine AOps.c rfl (o_call (vs := [.int .i64 (n), .agg (ints r).toArray, .agg (ints q).toArray]) rfl Try.call37 (twoCode_ok _ _ _ _ (by first | assumption | exact rw_len (by assumption) (by omega)) (by first | assumption | exact rw_len (by assumption) (by omega)))) ?_
  refine AOps.p rfl (p_assign rfl) ?_
  refine AOps.nil ?_
  refine AWp.seq ?_
  refine AWp.cut (fun t' H' => H ++ [AObj.row false (ints r), AObj.row false (ints q)] = H' ∧ Sub [(0, .int .i64 (n)), (1, .agg (ints r).toArray), (2, .agg (ints q).toArray), (3, .int .i64 (a)), (5, .pointer (some ⟨H.length + 0, 0, none⟩)), (6, .pointer (some ⟨H.length + 1, 0, none⟩)), (8, .slice none 0 0), (9, .int .i64 (0)), (10, .int .i64 (rcode n [r, q])), (28, .bool ((decide (rcode n [r, q] = 0)) && (!(inB a 0 (n - 1)))))] t') ?_ ?_
  · refine AWp.region ?_
    refine AOps.p rfl (p_move rfl) ?_
    refine AOps.p rfl (p_eql rfl rfl) ?_
    refine AOps.p rfl (p_move rfl) ?_
    refine AOps.cases (d := 22) rfl (fun c1 => ?_) (fun c1 => ?_)
    · have d1 := c1
      try simp only [inB, Bool.and_eq_true, Bool.or_eq_true, Bool.and_eq_false_iff, Bool.or_eq_false_iff, Bool.not_eq_true', Bool.not_eq_false', decide_eq_true_eq, decide_eq_false_iff_not, Int.not_le, Int.not_lt] at d1
      have hn := rcode_n d1
      refine AOps.gp rfl rfl rfl (p_move rfl) ?_
      refine AOps.gp rfl rfl rfl (p_move rfl) ?_
      refine AOps.gp rfl rfl rfl (p_sub rfl rfl (wr64 (by omega) (by omega))) ?_
      refine AOps.gc rfl rfl rfl (o_call (vs := [.int .i64 (a), .int .i64 (0), .int .i64 (n - 1)]) rfl Try.call30 (between_ok _ _ _ _)) ?_
      refine AOps.gp rfl rfl rfl (p_not rfl) ?_
      refine AOps.p rfl (p_pickT rfl rfl) ?_
      refine AOps.nil ?_
      exact ⟨rfl, Sub.cons' rfl rfl (Sub.cons' rfl rfl (Sub.cons' rfl rfl (Sub.cons' rfl rfl (Sub.cons' rfl rfl (Sub.cons' rfl rfl (Sub.cons' rfl rfl (Sub.cons' rfl rfl (Sub.cons' rfl rfl (Sub.cons' rfl (bool_eq (by simp only [c1, Bool.true_and, Bool.false_and, Bool.and_true, Bool.and_false, Bool.true_or, Bool.false_or, Bool.or_true, Bool.or_false, Bool.not_true, Bool.not_false, cond_true, cond_false])) (Sub.nil _))))))))))⟩
    · have d1 := c1
      try simp only [inB, Bool.and_eq_true, Bool.or_eq_true, Bool.and_eq_false_iff, Bool.or_eq_false_iff, Bool.not_eq_true', Bool.not_eq_false', decide_eq_true_eq, decide_eq_false_iff_not, Int.not_le, Int.not_lt] at d1
      refine AOps.gn rfl rfl rfl ?_
      refine AOps.gn rfl rfl rfl ?_
      refine AOps.gn rfl rfl rfl ?_
      refine AOps.gn rfl rfl rfl ?_
      refine AOps.gn rfl rfl rfl ?_
      refine AOps.p rfl (p_pickF rfl rfl) ?_
      refine AOps.nil ?_
      exact ⟨rfl, Sub.cons' rfl rfl (Sub.cons' rfl rfl (Sub.cons' rfl rfl (Sub.cons' rfl rfl (Sub.cons' rfl rfl (Sub.cons' rfl rfl (Sub.cons' rfl rfl (Sub.cons' rfl rfl (Sub.cons' rfl rfl (Sub.cons' rfl (bool_eq (by simp only [c1, Bool.true_and, Bool.false_and, Bool.and_true, Bool.and_false, Bool.true_or, Bool.false_or, Bool.or_true, Bool.or_false, Bool.not_true, Bool.not_false, cond_true, cond_false])) (Sub.nil _))))))))))⟩
  · rintro t' _ ⟨rfl, hsub⟩
    refine AWp.sub hsub ?_
    refine AWp.cutQ (fun t' H' => H ++ [AObj.row false (ints r), AObj.row false (ints q)] = H' ∧ Sub [(0, .int .i64 (n)), (1, .agg (ints r).toArray), (2, .agg (ints q).toArray), (3, .int .i64 (a)), (5, .pointer (some ⟨H.length + 0, 0, none⟩)), (6, .pointer (some ⟨H.length + 1, 0, none⟩)), (8, .slice none 0 0), (9, .int .i64 (0)), (10, .int .i64 ((bif ((decide (rcode n [r, q] = 0)) && (!(inB a 0 (n - 1)))) then 2 else rcode n [r, q]))), (28, .bool ((decide (rcode n [r, q] = 0)) && (!(inB a 0 (n - 1)))))] t') ?_ ?_
    · refine AWp.cond rfl (fun c2 => ?_) (fun c2 => ?_)
      · have d2 := c2
        try simp only [inB, Bool.and_eq_true, Bool.or_eq_true, Bool.and_eq_false_iff, Bool.or_eq_false_iff, Bool.not_eq_true', Bool.not_eq_false', decide_eq_true_eq, decide_eq_false_iff_not, Int.not_le, Int.not_lt] at d2
        refine AWp.region ?_
        refine AOps.p rfl (p_assign rfl) ?_
        refine AOps.nil ?_
        exact ⟨rfl, Sub.cons' rfl rfl (Sub.cons' rfl rfl (Sub.cons' rfl rfl (Sub.cons' rfl rfl (Sub.cons' rfl rfl (Sub.cons' rfl rfl (Sub.cons' rfl rfl (Sub.cons' rfl rfl (Sub.cons' rfl (by rw [c2]; rfl) (Sub.cons' rfl rfl (Sub.nil _))))))))))⟩
      · have d2 := c2
        try simp only [inB, Bool.and_eq_true, Bool.or_eq_true, Bool.and_eq_false_iff, Bool.or_eq_false_iff, Bool.not_eq_true', Bool.not_eq_false', decide_eq_true_eq, decide_eq_false_iff_not, Int.not_le, Int.not_lt] at d2
        refine AWp.skip ?_
        exact ⟨rfl, Sub.cons' rfl rfl (Sub.cons' rfl rfl (Sub.cons' rfl rfl (Sub.cons' rfl rfl (Sub.cons' rfl rfl (Sub.cons' rfl rfl (Sub.cons' rfl rfl (Sub.cons' rfl rfl (Sub.cons' rfl (by rw [c2]; rfl) (Sub.cons' rfl rfl (Sub.nil _))))))))))⟩
    · rintro t' _ ⟨rfl, hsub⟩
      refine AWp.sub hsub ?_
      refine AWp.seq ?_
      refine AWp.seq ?_
      refine AWp.region ?_
      refine AOps.p rfl (p_move rfl) ?_
      refine AOps.p rfl (p_neq rfl rfl) ?_
      refine AOps.nil ?_
      refine AWp.cond rfl (fun c3 => ?_) (fun c3 => ?_)
      · have d3 := c3
        try simp only [inB, Bool.and_eq_true, Bool.or_eq_true, Bool.and_eq_false_iff, Bool.or_eq_false_iff, Bool.not_eq_true', Bool.not_eq_false', decide_eq_true_eq, decide_eq_false_iff_not, Int.not_le, Int.not_lt] at d3
        refine AWp.seq ?_
        refine AWp.region ?_
        refine AOps.p rfl (p_move rfl) ?_
        refine AOps.p rfl (p_assign rfl) ?_
        refine AOps.p rfl (p_assign rfl) ?_
        refine AOps.nil ?_
        refine AWp.ret ?_
        refine ends (.inr rfl) (res2 rfl (rv_tmp rfl) (rv_tmp rfl)) ?_ (Fin.dropOwn (flatB_ok rfl))
        -- return 1: .tuple #[.slice none 0 0, .int .i64 ((bif ((decide (rcode n [r, q] = 0)) && (!(inB a 0 (n - 1)))) then 2 else rcode n [r, q]))]
        exact by rw [chOk_two hok]
      · have d3 := c3
        try simp only [inB, Bool.and_eq_true, Bool.or_eq_true, Bool.and_eq_false_iff, Bool.or_eq_false_iff, Bool.not_eq_true', Bool.not_eq_false', decide_eq_true_eq, decide_eq_false_iff_not, Int.not_le, Int.not_lt] at d3
        exact absurd c3 (by rw [chOk_two hok]; simp)

theorem eqI_ok (H : AHeap) (p₁ p₂ : Option Addr) (n₁ n₂ c₁ c₂ : Nat) (xs ys : List Int) (h₁ : SlIs H p₁ n₁ xs) (h₂ : SlIs H p₂ n₂ ys) (hb : n₁ ≤ 9223372036854775807) (hb₂ : n₂ ≤ 9223372036854775807) : ACall Try.prog 21 ([.slice p₁ (n₁) (c₁), .slice p₂ (n₂) (c₂)]) H (.bool (decide (xs = ys))) H := by
  have hl₁ := h₁.1
  have hl₂ := h₂.1
  refine ACall.body (N := 26) [(0, .slice p₁ (n₁) (c₁)), (1, .slice p₂ (n₂) (c₂))] Try.func21 rfl rfl rfl rfl ?_
  refine AWp.seq ?_
  refine AWp.region ?_
  refine AOps.p rfl (p_assign rfl) ?_
  refine AOps.nil ?_
  refine AWp.seq ?_
  refine AWp.seq ?_
  refine AWp.region ?_
  refine AOps.p rfl (p_move rfl) ?_
  refine AOps.p rfl (p_len_slice rfl Try.underlying34) ?_
  refine AOps.p rfl (p_move rfl) ?_
  refine AOps.p rfl (p_len_slice rfl Try.underlying34) ?_
  refine AOps.p rfl (p_neq rfl rfl) ?_
  refine AOps.nil ?_
  refine AWp.cond rfl (fun c1 => ?_) (fun c1 => ?_)
  · have d1 := c1
    try simp only [inB, Bool.and_eq_true, Bool.or_eq_true, Bool.and_eq_false_iff, Bool.or_eq_false_iff, Bool.not_eq_true', Bool.not_eq_false', decide_eq_true_eq, decide_eq_false_iff_not, Int.not_le, Int.not_lt] at d1
    refine AWp.seq ?_
    refine AWp.region ?_
    refine AOps.p rfl (p_assign rfl) ?_
    refine AOps.nil ?_
    refine AWp.ret ?_
    refine ends (.inr rfl) (res1 rfl (rv_tmp rfl)) ?_ (Fin.refl _ _ _)
    -- return 1: .bool false
    exact bool_eq (decide_eq_false (fun h => by rw [h] at hl₁; omega)).symm
  · have d1 := c1
    try simp only [inB, Bool.and_eq_true, Bool.or_eq_true, Bool.and_eq_false_iff, Bool.or_eq_false_iff, Bool.not_eq_true', Bool.not_eq_false', decide_eq_true_eq, decide_eq_false_iff_not, Int.not_le, Int.not_lt] at d1
    refine AWp.skip ?_
    refine AWp.seq ?_
    refine AWp.seq ?_
    refine AWp.region ?_
    refine AOps.p rfl (p_assign rfl) ?_
    refine AOps.nil ?_
    refine AWp.block ?_
    refine AWp.round (α := Nat) (fun k => [(0, .slice p₁ (n₁) (c₁)), (1, .slice p₂ (n₂) (c₂)), (4, .bool false), (5, .int .i64 (((k : Nat) : Int))), (10, .bool (!decide (((n₁ : Nat) : Int) = ((n₂ : Nat) : Int))))]) (fun k => H) (fun k => k ≤ n₁ ∧ ∀ j, j < k → rd xs j = rd ys j) (fun k => n₁ - k) 0 ⟨by omega, fun j h => absurd h (Nat.not_lt_zero j)⟩ (Sub.cons' rfl rfl (Sub.cons' rfl rfl (Sub.cons' rfl rfl (Sub.cons' rfl rfl (Sub.cons' rfl rfl (Sub.nil _)))))) rfl ?_
    intro k hInv0
    obtain ⟨hk, hI⟩ := hInv0
    have hlen : n₁ = n₂ := by omega
    refine AWp.sub (t' := [(0, .slice p₁ (n₁) (c₁)), (1, .slice p₂ (n₂) (c₂)), (4, .bool false), (5, .int .i64 (((k : Nat) : Int))), (10, .bool (!decide (((n₁ : Nat) : Int) = ((n₂ : Nat) : Int))))]) (Sub.refl _) ?_
    refine AWp.heap (H' := H) rfl ?_
    refine AWp.seq ?_
    refine AWp.seq ?_
    refine AWp.region ?_
    refine AOps.p rfl (p_move rfl) ?_
    refine AOps.p rfl (p_move rfl) ?_
    refine AOps.p rfl (p_len_slice rfl Try.underlying34) ?_
    refine AOps.p rfl (p_lss rfl rfl) ?_
    refine AOps.nil ?_
    refine AWp.cond rfl (fun c2 => ?_) (fun c2 => ?_)
    · have d2 := c2
      try simp only [inB, Bool.and_eq_true, Bool.or_eq_true, Bool.and_eq_false_iff, Bool.or_eq_false_iff, Bool.not_eq_true', Bool.not_eq_false', decide_eq_true_eq, decide_eq_false_iff_not, Int.not_le, Int.not_lt] at d2
      obtain ⟨i₁, ro₁, hp₁, hg₁⟩ := h₁.some (by omega)
      obtain ⟨i₂, ro₂, hp₂, hg₂⟩ := h₂.some (by omega)
      refine AWp.skip ?_
      refine AWp.seq ?_
      refine AWp.block ?_
      refine AWp.cut (fun t' H' => H = H' ∧ Sub [(0, .slice p₁ (n₁) (c₁)), (1, .slice p₂ (n₂) (c₂)), (4, .bool false), (5, .int .i64 (((k : Nat) : Int))), (10, .bool (!decide (((n₁ : Nat) : Int) = ((n₂ : Nat) : Int)))), (14, .bool (decide (((k : Nat) : Int) < ((n₁ : Nat) : Int)))), (25, .bool (!decide (rd xs k = rd ys k)))] t') ?_ ?_
      · refine DTr.start mix ?_
        refine DTr.p rfl rfl (p_move rfl) ?_
        refine DTr.p rfl rfl (p_move rfl) ?_
        refine DTr.p rfl rfl (s_indexP (q := k) Try.underlying34 Try.sizeOf2 rfl hp₁ rfl (by omega) (by omega) (by omega)) ?_
        refine DTr.r rfl rfl (r_load rfl Try.isAgg2) (one_read (row_cell (hg₁) (ints_get (by omega))) (.of_flat0 rfl)) ?_
        refine DTr.p rfl rfl (p_move rfl) ?_
        refine DTr.p rfl rfl (p_move rfl) ?_
        refine DTr.p rfl rfl (s_indexP (q := k) Try.underlying34 Try.sizeOf2 rfl hp₂ rfl (by omega) (by omega) (by omega)) ?_
        refine DTr.r rfl rfl (r_load rfl Try.isAgg2) (one_read (row_cell (hg₂) (ints_get (by omega))) (.of_flat0 rfl)) ?_
        refine DTr.p rfl rfl (p_neq rfl rfl) ?_
        exact DTr.nil ⟨by kernel_rfl, dyn_noWrite rfl, rfl, Sub.cons' rfl rfl (Sub.cons' rfl rfl (Sub.cons' rfl rfl (Sub.cons' rfl rfl (Sub.cons' rfl rfl (Sub.cons' rfl rfl (Sub.cons' rfl rfl (Sub.nil _)))))))⟩
      · rintro t' _ ⟨rfl, hsub⟩
        refine AWp.sub hsub ?_
        refine AWp.cond rfl (fun c3 => ?_) (fun c3 => ?_)
        · have d3 := c3
          try simp only [inB, Bool.and_eq_true, Bool.or_eq_true, Bool.and_eq_false_iff, Bool.or_eq_false_iff, Bool.not_eq_true', Bool.not_eq_false', decide_eq_true_eq, decide_eq_false_iff_not, Int.not_le, Int.not_lt] at d3
          refine AWp.seq ?_
          refine AWp.region ?_
          refine AOps.p rfl (p_assign rfl) ?_
          refine AOps.nil ?_
          refine AWp.ret ?_
          refine ends (.inr rfl) (res1 rfl (rv_tmp rfl)) ?_ (Fin.refl _ _ _)
          -- return 2: .bool false
          exact bool_eq (eq_no (by simpa using c3)).symm
        · have d3 := c3
          try simp only [inB, Bool.and_eq_true, Bool.or_eq_true, Bool.and_eq_false_iff, Bool.or_eq_false_iff, Bool.not_eq_true', Bool.not_eq_false', decide_eq_true_eq, decide_eq_false_iff_not, Int.not_le, Int.not_lt] at d3
          refine AWp.skip ?_
          refine AWp.region ?_
          refine AOps.p rfl (p_move rfl) ?_
          refine AOps.p rfl (p_add rfl rfl (wr64 (by omega) (by omega))) ?_
          refine AOps.p rfl (p_assign rfl) ?_
          refine AOps.nil ?_
          exact ⟨k + 1, ⟨by omega, eq_step hI (by simpa using c3)⟩, by omega, Sub.cons' rfl rfl (Sub.cons' rfl rfl (Sub.cons' rfl rfl (Sub.cons' rfl (by first | rfl | (exact int_eq (by omega))) (Sub.cons' rfl rfl (Sub.nil _))))), rfl⟩
    · have d2 := c2
      try simp only [inB, Bool.and_eq_true, Bool.or_eq_true, Bool.and_eq_false_iff, Bool.or_eq_false_iff, Bool.not_eq_true', Bool.not_eq_false', decide_eq_true_eq, decide_eq_false_iff_not, Int.not_le, Int.not_lt] at d2
      refine AWp.exit ?_
      refine AWp.seq ?_
      refine AWp.region ?_
      refine AOps.p rfl (p_assign rfl) ?_
      refine AOps.nil ?_
      refine AWp.ret ?_
      refine ends (.inr rfl) (res1 rfl (rv_tmp rfl)) ?_ (Fin.refl _ _ _)
      -- return 3: .bool true
      exact bool_eq (eq_yes hl₁ (by omega) (by omega) hI).symm

theorem eqI_same (H : AHeap) (p₁ p₂ : Option Addr) (n₁ n₂ c₁ c₂ : Nat) (xs : List Int) (h₁ : SlIs H p₁ n₁ xs) (h₂ : SlIs H p₂ n₂ xs) (hb : n₁ ≤ 9223372036854775807) (hb₂ : n₂ ≤ 9223372036854775807) : ACall Try.prog 21 [.slice p₁ n₁ c₁, .slice p₂ n₂ c₂] H (.bool true) H := by
  have := eqI_ok H p₁ p₂ n₁ n₂ c₁ c₂ xs xs h₁ h₂ hb hb₂
  simpa using this

theorem markI_ok (H : AHeap) (i n c : Nat) (xs : List Int) (k : Int) (hn : xs.length = n) (hk0 : 0 ≤ k) (hkb : k + n ≤ 4611686018427387904) (hg : hget H i = .row false (ints xs)) {H' : AHeap} (hH : H.set i (AObj.row false (ints (mkl k n))) = H') : ACall Try.prog 22 ([.slice (some ⟨i, 0, none⟩) (n) (c), .int .i64 (k)]) H (.int .i64 (k + ((n : Nat) : Int))) H' := by
  subst hH
  refine ACall.body (N := 19) [(0, .slice (some ⟨i, 0, none⟩) (n) (c)), (1, .int .i64 (k))] Try.func22 rfl rfl rfl rfl ?_
  refine AWp.seq ?_
  refine AWp.region ?_
  refine AOps.p rfl (p_assign rfl) ?_
  refine AOps.nil ?_
  refine AWp.seq ?_
  refine AWp.seq ?_
  refine AWp.region ?_
  refine AOps.p rfl (p_assign rfl) ?_
  refine AOps.nil ?_
  refine AWp.block ?_
  refine AWp.round (α := Nat) (fun j => [(0, .slice (some ⟨i, 0, none⟩) (n) (c)), (1, .int .i64 (k + ((j : Nat) : Int))), (4, .int .i64 (0)), (5, .int .i64 (((j : Nat) : Int)))]) (fun j => (H.set i (AObj.row false (ints (mks xs k j))))) (fun j => j ≤ n) (fun j => n - j) 0 (Nat.zero_le _) (Sub.cons' rfl rfl (Sub.cons' rfl (int_eq (by omega)) (Sub.cons' rfl rfl (Sub.cons' rfl rfl (Sub.nil _))))) (by rw [mks_zero]; exact (set_self hg).symm) ?_
  intro j hInv0
  have hml := mks_length xs k j
  refine AWp.sub (t' := [(0, .slice (some ⟨i, 0, none⟩) (n) (c)), (1, .int .i64 (k + ((j : Nat) : Int))), (4, .int .i64 (0)), (5, .int .i64 (((j : Nat) : Int)))]) (Sub.refl _) ?_
  refine AWp.heap (H' := (H.set i (AObj.row false (ints (mks xs k j))))) rfl ?_
  refine AWp.seq ?_
  refine AWp.seq ?_
  refine AWp.region ?_
  refine AOps.p rfl (p_move rfl) ?_
  refine AOps.p rfl (p_move rfl) ?_
  refine AOps.p rfl (p_len_slice rfl Try.underlying34) ?_
  refine AOps.p rfl (p_lss rfl rfl) ?_
  refine AOps.nil ?_
  refine AWp.cond rfl (fun c1 => ?_) (fun c1 => ?_)
  · have d1 := c1
    try simp only [inB, Bool.and_eq_true, Bool.or_eq_true, Bool.and_eq_false_iff, Bool.or_eq_false_iff, Bool.not_eq_true', Bool.not_eq_false', decide_eq_true_eq, decide_eq_false_iff_not, Int.not_le, Int.not_lt] at d1
    refine AWp.skip ?_
    refine AWp.seq ?_
    refine AWp.block ?_
    refine AWp.seq ?_
    refine AWp.region ?_
    refine AOps.p rfl (p_move rfl) ?_
    refine AOps.p rfl (p_move rfl) ?_
    refine AOps.p rfl (p_move rfl) ?_
    refine AOps.p rfl (s_indexSl (q := j) Try.underlying34 Try.sizeOf2 rfl rfl (by omega) (by omega) (by omega)) ?_
    refine AOps.s (s_store Try.sizeOf2 rfl rfl rfl ((hget_set_same _ (row_lt hg))) (by rw [ints_length]; first | omega | (simp only [List.length_set, List.length_replicate]; omega)) (by rw [ints_set])) ?_
    obtain ⟨G1, hG1⟩ : ∃ Gx_ : AHeap, Gx_ = ((H.set i (AObj.row false (ints (mks xs k j))))).set (i) (AObj.row false (ints ((mks xs k j).set j (k + ((j : Nat) : Int))))) := ⟨_, rfl⟩
    have lG1 : G1.length = (H.set i (AObj.row false (ints (mks xs k j)))).length := by rw [hG1, List.length_set]
    have kG1_1 : hget G1 (i) = AObj.row false (ints ((mks xs k j).set j (k + ((j : Nat) : Int)))) := by rw [hG1]; exact hget_set_same _ (by have := (show i < (H.set i (AObj.row false (ints (mks xs k j)))).length by rw [List.length_set]; exact row_lt hg); omega)
    have mG1_1 : i < G1.length := by have := (show i < (H.set i (AObj.row false (ints (mks xs k j)))).length by rw [List.length_set]; exact row_lt hg); omega
    refine AOps.heap (H' := G1) hG1.symm ?_
    refine AOps.nil ?_
    refine AWp.region ?_
    refine AOps.p rfl (p_move rfl) ?_
    refine AOps.p rfl (p_add rfl rfl (wr64 (by omega) (by omega))) ?_
    refine AOps.p rfl (p_assign rfl) ?_
    refine AOps.nil ?_
    refine AWp.region ?_
    refine AOps.p rfl (p_move rfl) ?_
    refine AOps.p rfl (p_add rfl rfl (wr64 (by omega) (by omega))) ?_
    refine AOps.p rfl (p_assign rfl) ?_
    refine AOps.nil ?_
    exact ⟨j + 1, by omega, by omega, Sub.cons' rfl rfl (Sub.cons' rfl (by first | rfl | (exact int_eq (by omega))) (Sub.cons' rfl rfl (Sub.cons' rfl (by first | rfl | (exact int_eq (by omega))) (Sub.nil _)))), (by rw [hG1, List.set_set, mks_set _ _ _ (by omega)])⟩
  · have d1 := c1
    try simp only [inB, Bool.and_eq_true, Bool.or_eq_true, Bool.and_eq_false_iff, Bool.or_eq_false_iff, Bool.not_eq_true', Bool.not_eq_false', decide_eq_true_eq, decide_eq_false_iff_not, Int.not_le, Int.not_lt] at d1
    refine AWp.exit ?_
    refine AWp.seq ?_
    refine AWp.region ?_
    refine AOps.p rfl (p_move rfl) ?_
    refine AOps.p rfl (p_assign rfl) ?_
    refine AOps.nil ?_
    refine AWp.ret ?_
    refine ends2 (.inr rfl) (res1 rfl (rv_tmp rfl)) ?_
    -- return 1: .int .i64 (k + ((j : Nat) : Int))
    rw [mks_full xs k (by omega), hn]
    have e : k + (j : Int) = k + (n : Int) := by omega
    rw [e]
    exact Fin.refl _ _ _

theorem heldI_ok (H : AHeap) (i n c : Nat) (k : Int) (ro : Bool) (hk0 : 0 ≤ k) (hkb : k + n ≤ 4611686018427387904) (hg : hget H i = .row ro (ints (mkl k n))) : ACall Try.prog 23 ([.slice (some ⟨i, 0, none⟩) (n) (c), .int .i64 (k)]) H (.int .i64 (k + ((n : Nat) : Int))) H := by
  have hml := mkl_length k n
  refine ACall.body (N := 21) [(0, .slice (some ⟨i, 0, none⟩) (n) (c)), (1, .int .i64 (k))] Try.func23 rfl rfl rfl rfl ?_
  refine AWp.seq ?_
  refine AWp.region ?_
  refine AOps.p rfl (p_assign rfl) ?_
  refine AOps.nil ?_
  refine AWp.seq ?_
  refine AWp.seq ?_
  refine AWp.region ?_
  refine AOps.p rfl (p_assign rfl) ?_
  refine AOps.nil ?_
  refine AWp.block ?_
  refine AWp.round (α := Nat) (fun j => [(0, .slice (some ⟨i, 0, none⟩) (n) (c)), (1, .int .i64 (k + ((j : Nat) : Int))), (4, .int .i64 (0)), (5, .int .i64 (((j : Nat) : Int)))]) (fun j => H) (fun j => j ≤ n) (fun j => n - j) 0 (Nat.zero_le _) (Sub.cons' rfl rfl (Sub.cons' rfl (int_eq (by omega)) (Sub.cons' rfl rfl (Sub.cons' rfl rfl (Sub.nil _))))) rfl ?_
  intro j hInv0
  refine AWp.sub (t' := [(0, .slice (some ⟨i, 0, none⟩) (n) (c)), (1, .int .i64 (k + ((j : Nat) : Int))), (4, .int .i64 (0)), (5, .int .i64 (((j : Nat) : Int)))]) (Sub.refl _) ?_
  refine AWp.heap (H' := H) rfl ?_
  refine AWp.seq ?_
  refine AWp.seq ?_
  refine AWp.region ?_
  refine AOps.p rfl (p_move rfl) ?_
  refine AOps.p rfl (p_move rfl) ?_
  refine AOps.p rfl (p_len_slice rfl Try.underlying34) ?_
  refine AOps.p rfl (p_lss rfl rfl) ?_
  refine AOps.nil ?_
  refine AWp.cond rfl (fun c1 => ?_) (fun c1 => ?_)
  · have d1 := c1
    try simp only [inB, Bool.and_eq_true, Bool.or_eq_true, Bool.and_eq_false_iff, Bool.or_eq_false_iff, Bool.not_eq_true', Bool.not_eq_false', decide_eq_true_eq, decide_eq_false_iff_not, Int.not_le, Int.not_lt] at d1
    refine AWp.skip ?_
    refine AWp.seq ?_
    refine AWp.block ?_
    refine AWp.seq ?_
    refine AWp.seq ?_
    refine AWp.region ?_
    refine AOps.p rfl (p_move rfl) ?_
    refine AOps.p rfl (p_move rfl) ?_
    refine AOps.p rfl (s_indexSl (q := j) Try.underlying34 Try.sizeOf2 rfl rfl (by omega) (by omega) (by omega)) ?_
    refine AOps.c rfl (s_load Try.isAgg2 rfl (row_cell (hg) (ints_get (by omega)))) ?_
    refine AOps.p rfl (p_move rfl) ?_
    refine AOps.p rfl (p_neq rfl rfl) ?_
    refine AOps.nil ?_
    refine AWp.cond rfl (fun c2 => ?_) (fun c2 => ?_)
    · have d2 := c2
      try simp only [inB, Bool.and_eq_true, Bool.or_eq_true, Bool.and_eq_false_iff, Bool.or_eq_false_iff, Bool.not_eq_true', Bool.not_eq_false', decide_eq_true_eq, decide_eq_false_iff_not, Int.not_le, Int.not_lt] at d2
      exact absurd c2 (by rw [mkl_rd k n (by omega)]; simp)
    · have d2 := c2
      try simp only [inB, Bool.and_eq_true, Bool.or_eq_true, Bool.and_eq_false_iff, Bool.or_eq_false_iff, Bool.not_eq_true', Bool.not_eq_false', decide_eq_true_eq, decide_eq_false_iff_not, Int.not_le, Int.not_lt] at d2
      refine AWp.skip ?_
      refine AWp.region ?_
      refine AOps.p rfl (p_move rfl) ?_
      refine AOps.p rfl (p_add rfl rfl (wr64 (by omega) (by omega))) ?_
      refine AOps.p rfl (p_assign rfl) ?_
      refine AOps.nil ?_
      refine AWp.region ?_
      refine AOps.p rfl (p_move rfl) ?_
      refine AOps.p rfl (p_add rfl rfl (wr64 (by omega) (by omega))) ?_
      refine AOps.p rfl (p_assign rfl) ?_
      refine AOps.nil ?_
      exact ⟨j + 1, by omega, by omega, Sub.cons' rfl rfl (Sub.cons' rfl (by first | rfl | (exact int_eq (by omega))) (Sub.cons' rfl rfl (Sub.cons' rfl (by first | rfl | (exact int_eq (by omega))) (Sub.nil _)))), rfl⟩
  · have d1 := c1
    try simp only [inB, Bool.and_eq_true, Bool.or_eq_true, Bool.and_eq_false_iff, Bool.or_eq_false_iff, Bool.not_eq_true', Bool.not_eq_false', decide_eq_true_eq, decide_eq_false_iff_not, Int.not_le, Int.not_lt] at d1
    refine AWp.exit ?_
    refine AWp.seq ?_
    refine AWp.region ?_
    refine AOps.p rfl (p_move rfl) ?_
    refine AOps.p rfl (p_assign rfl) ?_
    refine AOps.nil ?_
    refine AWp.ret ?_
    refine ends (.inr rfl) (res1 rfl (rv_tmp rfl)) ?_ (Fin.refl _ _ _)
    -- return 1: .int .i64 (k + ((j : Nat) : Int))
    exact int_eq (by omega)

theorem markI_nil (H : AHeap) (k : Int) : ACall Try.prog 22 ([.slice none 0 0, .int .i64 (k)]) H (.int .i64 (k)) H := by
  refine ACall.body (N := 19) [(0, .slice none 0 0), (1, .int .i64 (k))] Try.func22 rfl rfl rfl rfl ?_
  refine AWp.seq ?_
  refine AWp.region ?_
  refine AOps.p rfl (p_assign rfl) ?_
  refine AOps.nil ?_
  refine AWp.seq ?_
  refine AWp.seq ?_
  refine AWp.region ?_
  refine AOps.p rfl (p_assign rfl) ?_
  refine AOps.nil ?_
  refine AWp.block ?_
  refine AWp.round (α := Nat) (fun j => [(0, .slice none 0 0), (1, .int .i64 (k)), (4, .int .i64 (0)), (5, .int .i64 (((j : Nat) : Int)))]) (fun j => H) (fun j => j = 0) (fun j => 0) 0 rfl (Sub.cons' rfl rfl (Sub.cons' rfl rfl (Sub.cons' rfl rfl (Sub.cons' rfl rfl (Sub.nil _))))) rfl ?_
  intro j hInv0
  refine AWp.sub (t' := [(0, .slice none 0 0), (1, .int .i64 (k)), (4, .int .i64 (0)), (5, .int .i64 (((j : Nat) : Int)))]) (Sub.refl _) ?_
  refine AWp.heap (H' := H) rfl ?_
  refine AWp.seq ?_
  refine AWp.seq ?_
  refine AWp.region ?_
  refine AOps.p rfl (p_move rfl) ?_
  refine AOps.p rfl (p_move rfl) ?_
  refine AOps.p rfl (p_len_slice rfl Try.underlying34) ?_
  refine AOps.p rfl (p_lss rfl rfl) ?_
  refine AOps.nil ?_
  refine AWp.cond rfl (fun c1 => ?_) (fun c1 => ?_)
  · have d1 := c1
    try simp only [inB, Bool.and_eq_true, Bool.or_eq_true, Bool.and_eq_false_iff, Bool.or_eq_false_iff, Bool.not_eq_true', Bool.not_eq_false', decide_eq_true_eq, decide_eq_false_iff_not, Int.not_le, Int.not_lt] at d1
    exact absurd d1 (by omega)
  · have d1 := c1
    try simp only [inB, Bool.and_eq_true, Bool.or_eq_true, Bool.and_eq_false_iff, Bool.or_eq_false_iff, Bool.not_eq_true', Bool.not_eq_false', decide_eq_true_eq, decide_eq_false_iff_not, Int.not_le, Int.not_lt] at d1
    refine AWp.exit ?_
    refine AWp.seq ?_
    refine AWp.region ?_
    refine AOps.p rfl (p_move rfl) ?_
    refine AOps.p rfl (p_assign rfl) ?_
    refine AOps.nil ?_
    refine AWp.ret ?_
    refine ends (.inr rfl) (res1 rfl (rv_tmp rfl)) ?_ (Fin.refl _ _ _)
    -- return 1: .int .i64 (k)
    exact rfl

theorem heldI_nil (H : AHeap) (k : Int) : ACall Try.prog 23 ([.slice none 0 0, .int .i64 (k)]) H (.int .i64 (k)) H := by
  refine ACall.body (N := 21) [(0, .slice none 0 0), (1, .int .i64 (k))] Try.func23 rfl rfl rfl rfl ?_
  refine AWp.seq ?_
  refine AWp.region ?_
  refine AOps.p rfl (p_assign rfl) ?_
  refine AOps.nil ?_
  refine AWp.seq ?_
  refine AWp.seq ?_
  refine AWp.region ?_
  refine AOps.p rfl (p_assign rfl) ?_
  refine AOps.nil ?_
  refine AWp.block ?_
  refine AWp.round (α := Nat) (fun j => [(0, .slice none 0 0), (1, .int .i64 (k)), (4, .int .i64 (0)), (5, .int .i64 (((j : Nat) : Int)))]) (fun j => H) (fun j => j = 0) (fun j => 0) 0 rfl (Sub.cons' rfl rfl (Sub.cons' rfl rfl (Sub.cons' rfl rfl (Sub.cons' rfl rfl (Sub.nil _))))) rfl ?_
  intro j hInv0
  refine AWp.sub (t' := [(0, .slice none 0 0), (1, .int .i64 (k)), (4, .int .i64 (0)), (5, .int .i64 (((j : Nat) : Int)))]) (Sub.refl _) ?_
  refine AWp.heap (H' := H) rfl ?_
  refine AWp.seq ?_
  refine AWp.seq ?_
  refine AWp.region ?_
  refine AOps.p rfl (p_move rfl) ?_
  refine AOps.p rfl (p_move rfl) ?_
  refine AOps.p rfl (p_len_slice rfl Try.underlying34) ?_
  refine AOps.p rfl (p_lss rfl rfl) ?_
  refine AOps.nil ?_
  refine AWp.cond rfl (fun c1 => ?_) (fun c1 => ?_)
  · have d1 := c1
    try simp only [inB, Bool.and_eq_true, Bool.or_eq_true, Bool.and_eq_false_iff, Bool.or_eq_false_iff, Bool.not_eq_true', Bool.not_eq_false', decide_eq_true_eq, decide_eq_false_iff_not, Int.not_le, Int.not_lt] at d1
    exact absurd d1 (by omega)
  · have d1 := c1
    try simp only [inB, Bool.and_eq_true, Bool.or_eq_true, Bool.and_eq_false_iff, Bool.or_eq_false_iff, Bool.not_eq_true', Bool.not_eq_false', decide_eq_true_eq, decide_eq_false_iff_not, Int.not_le, Int.not_lt] at d1
    refine AWp.exit ?_
    refine AWp.seq ?_
    refine AWp.region ?_
    refine AOps.p rfl (p_move rfl) ?_
    refine AOps.p rfl (p_assign rfl) ?_
    refine AOps.nil ?_
    refine AWp.ret ?_
    refine ends (.inr rfl) (res1 rfl (rv_tmp rfl)) ?_ (Fin.refl _ _ _)
    -- return 1: .int .i64 (k)
    exact rfl

theorem lawChain_no (H : AHeap) (n : Int) (r q : List Int) (a : Int) (hr : r.length = 14) (hq : q.length = 14) (hok : chOk n r q a = false) : ACall Try.prog 7 ([.int .i64 (n), .agg (ints r).toArray, .agg (ints q).toArray, .int .i64 (a)]) H (.bool true) H := by
  refine ACall.body (N := 84) [(0, .int .i64 (n)), (1, .agg (ints r).toArray), (2, .agg (ints q).toArray), (3, .int .i64 (a))] Try.func7 rfl rfl rfl rfl ?_
  refine AWp.seq ?_
  refine AWp.region ?_
  refine AOps.c rfl (s_box (i := H.length + 0) (cs := ints r) rfl rfl rfl rfl) ?_
  refine AOps.c rfl (s_box (i := H.length + 1) (cs := ints q) rfl (by exact List.length_append) rfl (by exact List.append_assoc _ _ _)) ?_
  refine AOps.p rfl (p_assign rfl) ?_
  refine AOps.nil ?_
  refine AWp.cut (fun t' H' => H ++ [AObj.row false (ints r), AObj.row false (ints q)] = H' ∧ Sub [(0, .int .i64 (n)), (1, .agg (ints r).toArray), (2, .agg (ints q).toArray), (3, .int .i64 (a)), (5, .pointer (some ⟨H.length + 0, 0, none⟩)), (6, .pointer (some ⟨H.length + 1, 0, none⟩)), (8, .bool false), (9, .slice none 0 0), (10, .int .i64 (2))] t') ?_ ?_
  · refine DTr.start mix ?_
    refine DTr.p rfl rfl (p_move rfl) ?_
    refine DTr.r rfl rfl (r_loadN (vs := ints r) rfl Try.isAgg23 Try.sizeOf23 (by rw [ints_length]; first | rfl | omega | (simp only [List.length_set, List.length_replicate]; omega))) (many_read (row_cells (own_row rfl)) ints_flat) ?_
    refine DTr.w rfl rfl (o_call (vs := [.agg (ints r).toArray]) rfl Try.call10 (toRound_ok _ _ (by first | assumption | exact rw_len (by assumption) (by omega)))) (Nat.le_refl _) ?_
    refine DTr.r rfl rfl (r_loadN (vs := ints q) rfl Try.isAgg23 Try.sizeOf23 (by rw [ints_length]; first | rfl | omega | (simp only [List.length_set, List.length_replicate]; omega))) (many_read (row_cells (own_row rfl)) ints_flat) ?_
    refine DTr.w rfl rfl (o_call (vs := [.agg (ints q).toArray]) rfl Try.call10 (toRound_ok _ _ (by first | assumption | exact rw_len (by assumption) (by omega)))) (Nat.le_refl _) ?_
    refine DTr.p rfl rfl (p_move rfl) ?_
    refine DTr.w rfl rfl (o_call (vs := [.int .i64 (n), .agg (ints r).toArray, .agg (ints q).toArray, .int .i64 (a)]) rfl Try.call19 (sChain_no _ _ _ _ _ (by first | assumption | exact rw_len (by assumption) (by omega)) (by first | assumption | exact rw_len (by assumption) (by omega)) hok)) (Nat.le_refl _) ?_
    refine DTr.p rfl rfl (p_move rfl) ?_
    refine DTr.p rfl rfl (p_extract rfl rfl) ?_
    refine DTr.p rfl rfl (p_extract rfl rfl) ?_
    refine DTr.p rfl rfl (p_assign rfl) ?_
    refine DTr.p rfl rfl (p_assign rfl) ?_
    exact DTr.nil ⟨by kernel_rfl, dyn_same rfl (by intro f hf; simp at hf; rcases hf with rfl | rfl | rfl | rfl | rfl | rfl | rfl | rfl | rfl | rfl | rfl | rfl <;> first | (intro h; cases h; done) | (intro _; rfl)), rfl, Sub.cons' rfl rfl (Sub.cons' rfl rfl (Sub.cons' rfl rfl (Sub.cons' rfl rfl (Sub.cons' rfl rfl (Sub.cons' rfl rfl (Sub.cons' rfl rfl (Sub.cons' rfl rfl (Sub.cons' rfl rfl (Sub.nil _)))))))))⟩
  · rintro t' _ ⟨rfl, hsub⟩
    refine AWp.sub hsub ?_
    refine AWp.cut (fun t' H' => H ++ [AObj.row false (ints r), AObj.row false (ints q)] = H' ∧ Sub [(0, .int .i64 (n)), (1, .agg (ints r).toArray), (2, .agg (ints q).toArray), (3, .int .i64 (a)), (5, .pointer (some ⟨H.length + 0, 0, none⟩)), (6, .pointer (some ⟨H.length + 1, 0, none⟩)), (8, .bool false), (9, .slice none 0 0), (10, .int .i64 (2)), (11, .slice none 0 0), (12, .int .i64 (2))] t') ?_ ?_
    · refine DTr.start mix ?_
      refine DTr.p rfl rfl (p_move rfl) ?_
      refine DTr.r rfl rfl (r_loadN (vs := ints r) rfl Try.isAgg23 Try.sizeOf23 (by rw [ints_length]; first | rfl | omega | (simp only [List.length_set, List.length_replicate]; omega))) (many_read (row_cells (own_row rfl)) ints_flat) ?_
      refine DTr.w rfl rfl (o_call (vs := [.agg (ints r).toArray]) rfl Try.call10 (toRound_ok _ _ (by first | assumption | exact rw_len (by assumption) (by omega)))) (Nat.le_refl _) ?_
      refine DTr.r rfl rfl (r_loadN (vs := ints q) rfl Try.isAgg23 Try.sizeOf23 (by rw [ints_length]; first | rfl | omega | (simp only [List.length_set, List.length_replicate]; omega))) (many_read (row_cells (own_row rfl)) ints_flat) ?_
      refine DTr.w rfl rfl (o_call (vs := [.agg (ints q).toArray]) rfl Try.call10 (toRound_ok _ _ (by first | assumption | exact rw_len (by assumption) (by omega)))) (Nat.le_refl _) ?_
      refine DTr.p rfl rfl (p_move rfl) ?_
      refine DTr.w rfl rfl (o_call (vs := [.int .i64 (n), .agg (ints r).toArray, .agg (ints q).toArray, .int .i64 (a)]) rfl Try.call20 (iChain_no _ _ _ _ _ (by first | assumption | exact rw_len (by assumption) (by omega)) (by first | assumption | exact rw_len (by assumption) (by omega)) hok)) (Nat.le_refl _) ?_
      refine DTr.p rfl rfl (p_move rfl) ?_
      refine DTr.p rfl rfl (p_extract rfl rfl) ?_
      refine DTr.p rfl rfl (p_extract rfl rfl) ?_
      refine DTr.p rfl rfl (p_assign rfl) ?_
      refine DTr.p rfl rfl (p_assign rfl) ?_
      exact DTr.nil ⟨by kernel_rfl, dyn_same rfl (by intro f hf; simp at hf; rcases hf with rfl | rfl | rfl | rfl | rfl | rfl | rfl | rfl | rfl | rfl | rfl | rfl <;> first | (intro h; cases h; done) | (intro _; rfl)), rfl, Sub.cons' rfl rfl (Sub.cons' rfl rfl (Sub.cons' rfl rfl (Sub.cons' rfl rfl (Sub.cons' rfl rfl (Sub.cons' rfl rfl (Sub.cons' rfl rfl (Sub.cons' rfl rfl (Sub.cons' rfl rfl (Sub.cons' rfl rfl (Sub.cons' rfl rfl (Sub.nil _)))))))))))⟩
    · rintro t' _ ⟨rfl, hsub⟩
      refine AWp.sub hsub ?_
      refine AWp.seq ?_
      refine AWp.seq ?_
      refine AWp.region ?_
      refine AOps.p rfl (p_move rfl) ?_
      refine AOps.p rfl (p_move rfl) ?_
      refine AOps.c rfl (o_call (vs := [.slice none 0 0, .slice none 0 0]) rfl Try.call21 (eqI_same _ _ _ _ _ _ _ _ (SlIs.nil _ _) (SlIs.nil _ _) (by omega) (by omega))) ?_
      refine AOps.p rfl (p_not rfl) ?_
      refine AOps.p rfl (p_move rfl) ?_
      refine AOps.gp rfl rfl rfl (p_move rfl) ?_
      refine AOps.gp rfl rfl rfl (p_move rfl) ?_
      refine AOps.gp rfl rfl rfl (p_neq rfl rfl) ?_
      refine AOps.p rfl (p_pickF rfl rfl) ?_
      refine AOps.nil ?_
      refine AWp.cond rfl (fun c1 => ?_) (fun c1 => ?_)
      · have d1 := c1
        try simp only [inB, Bool.and_eq_true, Bool.or_eq_true, Bool.and_eq_false_iff, Bool.or_eq_false_iff, Bool.not_eq_true', Bool.not_eq_false', decide_eq_true_eq, decide_eq_false_iff_not, Int.not_le, Int.not_lt] at d1
        exact absurd c1 (by simp)
      · have d1 := c1
        try simp only [inB, Bool.and_eq_true, Bool.or_eq_true, Bool.and_eq_false_iff, Bool.or_eq_false_iff, Bool.not_eq_true', Bool.not_eq_false', decide_eq_true_eq, decide_eq_false_iff_not, Int.not_le, Int.not_lt] at d1
        refine AWp.skip ?_
        refine AWp.seq ?_
        refine AWp.region ?_
        refine AOps.p rfl (p_assign rfl) ?_
        refine AOps.nil ?_
        refine AWp.seq ?_
        refine AWp.region ?_
        refine AOps.p rfl (p_move rfl) ?_
        refine AOps.p rfl (p_move rfl) ?_
        refine AOps.c rfl (o_call (vs := [.slice none 0 0, .int .i64 (1)]) rfl Try.call22 (markI_nil _ _)) ?_
        refine AOps.p rfl (p_assign rfl) ?_
        refine AOps.nil ?_
        refine AWp.seq ?_
        refine AWp.region ?_
        refine AOps.p rfl (p_assign rfl) ?_
        refine AOps.nil ?_
        refine AWp.seq ?_
        refine AWp.region ?_
        refine AOps.p rfl (p_move rfl) ?_
        refine AOps.p rfl (p_move rfl) ?_
        refine AOps.c rfl (o_call (vs := [.slice none 0 0, .int .i64 (1)]) rfl Try.call23 (heldI_nil _ _)) ?_
        refine AOps.p rfl (p_assign rfl) ?_
        refine AOps.nil ?_
        refine AWp.seq ?_
        refine AWp.seq ?_
        refine AWp.region ?_
        refine AOps.p rfl (p_move rfl) ?_
        refine AOps.p rfl (p_lss rfl rfl) ?_
        refine AOps.nil ?_
        refine AWp.cond rfl (fun c2 => ?_) (fun c2 => ?_)
        · have d2 := c2
          try simp only [inB, Bool.and_eq_true, Bool.or_eq_true, Bool.and_eq_false_iff, Bool.or_eq_false_iff, Bool.not_eq_true', Bool.not_eq_false', decide_eq_true_eq, decide_eq_false_iff_not, Int.not_le, Int.not_lt] at d2
          exact absurd c2 (by simp <;> omega)
        · have d2 := c2
          try simp only [inB, Bool.and_eq_true, Bool.or_eq_true, Bool.and_eq_false_iff, Bool.or_eq_false_iff, Bool.not_eq_true', Bool.not_eq_false', decide_eq_true_eq, decide_eq_false_iff_not, Int.not_le, Int.not_lt] at d2
          refine AWp.skip ?_
          refine AWp.seq ?_
          refine AWp.seq ?_
          refine AWp.region ?_
          refine AOps.p rfl (p_move rfl) ?_
          refine AOps.p rfl (p_move rfl) ?_
          refine AOps.p rfl (p_neq rfl rfl) ?_
          refine AOps.nil ?_
          refine AWp.cond rfl (fun c3 => ?_) (fun c3 => ?_)
          · have d3 := c3
            try simp only [inB, Bool.and_eq_true, Bool.or_eq_true, Bool.and_eq_false_iff, Bool.or_eq_false_iff, Bool.not_eq_true', Bool.not_eq_false', decide_eq_true_eq, decide_eq_false_iff_not, Int.not_le, Int.not_lt] at d3
            exact absurd c3 (by simp)
          · have d3 := c3
            try simp only [inB, Bool.and_eq_true, Bool.or_eq_true, Bool.and_eq_false_iff, Bool.or_eq_false_iff, Bool.not_eq_true', Bool.not_eq_false', decide_eq_true_eq, decide_eq_false_iff_not, Int.not_le, Int.not_lt] at d3
            refine AWp.skip ?_
            refine AWp.cut (fun t' H' => H ++ [AObj.row false (ints r), AObj.row false (ints q)] = H' ∧ Sub [(0, .int .i64 (n)), (1, .agg (ints r).toArray), (2, .agg (ints q).toArray), (3, .int .i64 (a)), (5, .pointer (some ⟨H.length + 0, 0, none⟩)), (6, .pointer (some ⟨H.length + 1, 0, none⟩)), (8, .bool false), (9, .slice none 0 0), (10, .int .i64 (2)), (11, .slice none 0 0), (12, .int .i64 (2)), (13, .int .i64 (1)), (14, .int .i64 (1)), (15, .slice none 0 0), (16, .int .i64 (2)), (45, .bool (!decide (2 = 2))), (53, .bool (decide (1 < 0))), (56, .bool (!decide (1 = 1)))] t') ?_ ?_
            · refine DTr.start mix ?_
              refine DTr.p rfl rfl (p_move rfl) ?_
              refine DTr.r rfl rfl (r_loadN (vs := ints r) rfl Try.isAgg23 Try.sizeOf23 (by rw [ints_length]; first | rfl | omega | (simp only [List.length_set, List.length_replicate]; omega))) (many_read (row_cells (own_row rfl)) ints_flat) ?_
              refine DTr.w rfl rfl (o_call (vs := [.agg (ints r).toArray]) rfl Try.call10 (toRound_ok _ _ (by first | assumption | exact rw_len (by assumption) (by omega)))) (Nat.le_refl _) ?_
              refine DTr.r rfl rfl (r_loadN (vs := ints q) rfl Try.isAgg23 Try.sizeOf23 (by rw [ints_length]; first | rfl | omega | (simp only [List.length_set, List.length_replicate]; omega))) (many_read (row_cells (own_row rfl)) ints_flat) ?_
              refine DTr.w rfl rfl (o_call (vs := [.agg (ints q).toArray]) rfl Try.call10 (toRound_ok _ _ (by first | assumption | exact rw_len (by assumption) (by omega)))) (Nat.le_refl _) ?_
              refine DTr.p rfl rfl (p_move rfl) ?_
              refine DTr.w rfl rfl (o_call (vs := [.int .i64 (n), .agg (ints r).toArray, .agg (ints q).toArray, .int .i64 (a)]) rfl Try.call20 (iChain_no _ _ _ _ _ (by first | assumption | exact rw_len (by assumption) (by omega)) (by first | assumption | exact rw_len (by assumption) (by omega)) hok)) (Nat.le_refl _) ?_
              refine DTr.p rfl rfl (p_move rfl) ?_
              refine DTr.p rfl rfl (p_extract rfl rfl) ?_
              refine DTr.p rfl rfl (p_extract rfl rfl) ?_
              refine DTr.p rfl rfl (p_assign rfl) ?_
              refine DTr.p rfl rfl (p_assign rfl) ?_
              exact DTr.nil ⟨by kernel_rfl, dyn_same rfl (by intro f hf; simp at hf; rcases hf with rfl | rfl | rfl | rfl | rfl | rfl | rfl | rfl | rfl | rfl | rfl | rfl <;> first | (intro h; cases h; done) | (intro _; rfl)), rfl, Sub.cons' rfl rfl (Sub.cons' rfl rfl (Sub.cons' rfl rfl (Sub.cons' rfl rfl (Sub.cons' rfl rfl (Sub.cons' rfl rfl (Sub.cons' rfl rfl (Sub.cons' rfl rfl (Sub.cons' rfl rfl (Sub.cons' rfl rfl (Sub.cons' rfl rfl (Sub.cons' rfl rfl (Sub.cons' rfl rfl (Sub.cons' rfl rfl (Sub.cons' rfl rfl (Sub.cons' rfl rfl (Sub.cons' rfl rfl (Sub.cons' rfl rfl (Sub.nil _))))))))))))))))))⟩
            · rintro t' _ ⟨rfl, hsub⟩
              refine AWp.sub hsub ?_
              refine AWp.seq ?_
              refine AWp.seq ?_
              refine AWp.region ?_
              refine AOps.p rfl (p_move rfl) ?_
              refine AOps.p rfl (p_move rfl) ?_
              refine AOps.c rfl (o_call (vs := [.slice none 0 0, .slice none 0 0]) rfl Try.call21 (eqI_same _ _ _ _ _ _ _ _ (SlIs.nil _ _) (SlIs.nil _ _) (by omega) (by omega))) ?_
              refine AOps.p rfl (p_not rfl) ?_
              refine AOps.p rfl (p_move rfl) ?_
              refine AOps.gp rfl rfl rfl (p_move rfl) ?_
              refine AOps.gp rfl rfl rfl (p_move rfl) ?_
              refine AOps.gp rfl rfl rfl (p_neq rfl rfl) ?_
              refine AOps.p rfl (p_pickF rfl rfl) ?_
              refine AOps.nil ?_
              refine AWp.cond rfl (fun c4 => ?_) (fun c4 => ?_)
              · have d4 := c4
                try simp only [inB, Bool.and_eq_true, Bool.or_eq_true, Bool.and_eq_false_iff, Bool.or_eq_false_iff, Bool.not_eq_true', Bool.not_eq_false', decide_eq_true_eq, decide_eq_false_iff_not, Int.not_le, Int.not_lt] at d4
                exact absurd c4 (by simp)
              · have d4 := c4
                try simp only [inB, Bool.and_eq_true, Bool.or_eq_true, Bool.and_eq_false_iff, Bool.or_eq_false_iff, Bool.not_eq_true', Bool.not_eq_false', decide_eq_true_eq, decide_eq_false_iff_not, Int.not_le, Int.not_lt] at d4
                refine AWp.skip ?_
                refine AWp.seq ?_
                refine AWp.region ?_
                refine AOps.p rfl (p_assign rfl) ?_
                refine AOps.nil ?_
                refine AWp.seq ?_
                refine AWp.region ?_
                refine AOps.p rfl (p_move rfl) ?_
                refine AOps.p rfl (p_move rfl) ?_
                refine AOps.c rfl (o_call (vs := [.slice none 0 0, .int .i64 (1)]) rfl Try.call23 (heldI_nil _ _)) ?_
                refine AOps.p rfl (p_assign rfl) ?_
                refine AOps.nil ?_
                refine AWp.seq ?_
                refine AWp.seq ?_
                refine AWp.region ?_
                refine AOps.p rfl (p_move rfl) ?_
                refine AOps.p rfl (p_lss rfl rfl) ?_
                refine AOps.nil ?_
                refine AWp.cond rfl (fun c5 => ?_) (fun c5 => ?_)
                · have d5 := c5
                  try simp only [inB, Bool.and_eq_true, Bool.or_eq_true, Bool.and_eq_false_iff, Bool.or_eq_false_iff, Bool.not_eq_true', Bool.not_eq_false', decide_eq_true_eq, decide_eq_false_iff_not, Int.not_le, Int.not_lt] at d5
                  exact absurd c5 (by simp <;> omega)
                · have d5 := c5
                  try simp only [inB, Bool.and_eq_true, Bool.or_eq_true, Bool.and_eq_false_iff, Bool.or_eq_false_iff, Bool.not_eq_true', Bool.not_eq_false', decide_eq_true_eq, decide_eq_false_iff_not, Int.not_le, Int.not_lt] at d5
                  refine AWp.skip ?_
                  refine AWp.seq ?_
                  refine AWp.seq ?_
                  refine AWp.region ?_
                  refine AOps.p rfl (p_move rfl) ?_
                  refine AOps.p rfl (p_move rfl) ?_
                  refine AOps.p rfl (p_neq rfl rfl) ?_
                  refine AOps.nil ?_
                  refine AWp.cond rfl (fun c6 => ?_) (fun c6 => ?_)
                  · have d6 := c6
                    try simp only [inB, Bool.and_eq_true, Bool.or_eq_true, Bool.and_eq_false_iff, Bool.or_eq_false_iff, Bool.not_eq_true', Bool.not_eq_false', decide_eq_true_eq, decide_eq_false_iff_not, Int.not_le, Int.not_lt] at d6
                    exact absurd c6 (by simp)
                  · have d6 := c6
                    try simp only [inB, Bool.and_eq_true, Bool.or_eq_true, Bool.and_eq_false_iff, Bool.or_eq_false_iff, Bool.not_eq_true', Bool.not_eq_false', decide_eq_true_eq, decide_eq_false_iff_not, Int.not_le, Int.not_lt] at d6
                    refine AWp.skip ?_
                    refine AWp.seq ?_
                    refine AWp.region ?_
                    refine AOps.p rfl (p_assign rfl) ?_
                    refine AOps.nil ?_
                    refine AWp.ret ?_
                    refine ends (.inr rfl) (res1 rfl (rv_tmp rfl)) ?_ (Fin.dropOwn (flatB_ok rfl))
                    -- return 1: .bool true
                    exact rfl

theorem lawChain_yes (H : AHeap) (n : Int) (r q : List Int) (a : Int) (hr : r.length = 14) (hq : q.length = 14) (hok : chOk n r q a = true) : ACall Try.prog 7 ([.int .i64 (n), .agg (ints r).toArray, .agg (ints q).toArray, .int .i64 (a)]) H (.bool true) H := by
  have hn := chOk_n hok
  obtain ⟨hs1, hs2, hs3⟩ := chK_spec hok
  refine ACall.body (N := 84) [(0, .int .i64 (n)), (1, .agg (ints r).toArray), (2, .agg (ints q).toArray), (3, .int .i64 (a))] Try.func7 rfl rfl rfl rfl ?_
  refine AWp.seq ?_
  refine AWp.region ?_
  refine AOps.c rfl (s_box (i := H.length + 0) (cs := ints r) rfl rfl rfl rfl) ?_
  refine AOps.c rfl (s_box (i := H.length + 1) (cs := ints q) rfl (by exact List.length_append) rfl (by exact List.append_assoc _ _ _)) ?_
  refine AOps.p rfl (p_assign rfl) ?_
  refine AOps.nil ?_
  refine AWp.cut (fun t' H' => H ++ [AObj.row false (ints r), AObj.row false (ints q), AObj.row false (ints (chl r q a (chK r q a)))] = H' ∧ Sub [(0, .int .i64 (n)), (1, .agg (ints r).toArray), (2, .agg (ints q).toArray), (3, .int .i64 (a)), (5, .pointer (some ⟨H.length + 0, 0, none⟩)), (6, .pointer (some ⟨H.length + 1, 0, none⟩)), (8, .bool false), (9, .slice (some ⟨H.length + 2, 0, none⟩) (chK r q a + 1) (chC r q a)), (10, .int .i64 (0))] t') ?_ ?_
  · refine DTr.start mix ?_
    refine DTr.p rfl rfl (p_move rfl) ?_
    refine DTr.r rfl rfl (r_loadN (vs := ints r) rfl Try.isAgg23 Try.sizeOf23 (by rw [ints_length]; first | rfl | omega | (simp only [List.length_set, List.length_replicate]; omega))) (many_read (row_cells (own_row rfl)) ints_flat) ?_
    refine DTr.w rfl rfl (o_call (vs := [.agg (ints r).toArray]) rfl Try.call10 (toRound_ok _ _ (by first | assumption | exact rw_len (by assumption) (by omega)))) (Nat.le_refl _) ?_
    refine DTr.r rfl rfl (r_loadN (vs := ints q) rfl Try.isAgg23 Try.sizeOf23 (by rw [ints_length]; first | rfl | omega | (simp only [List.length_set, List.length_replicate]; omega))) (many_read (row_cells (own_row rfl)) ints_flat) ?_
    refine DTr.w rfl rfl (o_call (vs := [.agg (ints q).toArray]) rfl Try.call10 (toRound_ok _ _ (by first | assumption | exact rw_len (by assumption) (by omega)))) (Nat.le_refl _) ?_
    refine DTr.p rfl rfl (p_move rfl) ?_
    refine DTr.w rfl rfl (o_call (vs := [.int .i64 (n), .agg (ints r).toArray, .agg (ints q).toArray, .int .i64 (a)]) rfl Try.call19 (sChain_ok _ _ _ _ _ (by first | assumption | exact rw_len (by assumption) (by omega)) (by first | assumption | exact rw_len (by assumption) (by omega)) hok (i' := H.length + 2) (H' := H ++ [AObj.row false (ints r), AObj.row false (ints q), AObj.row false (ints (chl r q a (chK r q a)))]) (by exact List.length_append) (by exact List.append_assoc _ _ _))) ((by simp only [List.length_append, List.length_cons, List.length_nil]; omega)) ?_
    refine DTr.p rfl rfl (p_move rfl) ?_
    refine DTr.p rfl rfl (p_extract rfl rfl) ?_
    refine DTr.p rfl rfl (p_extract rfl rfl) ?_
    refine DTr.p rfl rfl (p_assign rfl) ?_
    refine DTr.p rfl rfl (p_assign rfl) ?_
    exact DTr.nil ⟨by kernel_rfl, dyn_ext rfl (by intro f hf; simp at hf; rcases hf with rfl | rfl | rfl | rfl | rfl | rfl | rfl | rfl | rfl | rfl | rfl | rfl <;> first | (intro h; cases h; done) | (intro _; first | exact ⟨[], (List.append_nil _).symm⟩ | exact ⟨[AObj.row false (ints (chl r q a (chK r q a)))], by dsimp only; rw [List.append_assoc]; rfl⟩)), rfl, Sub.cons' rfl rfl (Sub.cons' rfl rfl (Sub.cons' rfl rfl (Sub.cons' rfl rfl (Sub.cons' rfl rfl (Sub.cons' rfl rfl (Sub.cons' rfl rfl (Sub.cons' rfl rfl (Sub.cons' rfl rfl (Sub.nil _)))))))))⟩
  · rintro t' _ ⟨rfl, hsub⟩
    refine AWp.sub hsub ?_
    refine AWp.cut (fun t' H' => H ++ [AObj.row false (ints r), AObj.row false (ints q), AObj.row false (ints (chl r q a (chK r q a))), AObj.row false (ints (chl r q a (chK r q a)))] = H' ∧ Sub [(0, .int .i64 (n)), (1, .agg (ints r).toArray), (2, .agg (ints q).toArray), (3, .int .i64 (a)), (5, .pointer (some ⟨H.length + 0, 0, none⟩)), (6, .pointer (some ⟨H.length + 1, 0, none⟩)), (8, .bool false), (9, .slice (some ⟨H.length + 2, 0, none⟩) (chK r q a + 1) (chC r q a)), (10, .int .i64 (0)), (11, .slice (some ⟨H.length + 3, 0, none⟩) (chK r q a + 1) (chC r q a)), (12, .int .i64 (0))] t') ?_ ?_
    · refine DTr.start mix ?_
      refine DTr.p rfl rfl (p_move rfl) ?_
      refine DTr.r rfl rfl (r_loadN (vs := ints r) rfl Try.isAgg23 Try.sizeOf23 (by rw [ints_length]; first | rfl | omega | (simp only [List.length_set, List.length_replicate]; omega))) (many_read (row_cells (own_row rfl)) ints_flat) ?_
      refine DTr.w rfl rfl (o_call (vs := [.agg (ints r).toArray]) rfl Try.call10 (toRound_ok _ _ (by first | assumption | exact rw_len (by assumption) (by omega)))) (Nat.le_refl _) ?_
      refine DTr.r rfl rfl (r_loadN (vs := ints q) rfl Try.isAgg23 Try.sizeOf23 (by rw [ints_length]; first | rfl | omega | (simp only [List.length_set, List.length_replicate]; omega))) (many_read (row_cells (own_row rfl)) ints_flat) ?_
      refine DTr.w rfl rfl (o_call (vs := [.agg (ints q).toArray]) rfl Try.call10 (toRound_ok _ _ (by first | assumption | exact rw_len (by assumption) (by omega)))) (Nat.le_refl _) ?_
      refine DTr.p rfl rfl (p_move rfl) ?_
      refine DTr.w rfl rfl (o_call (vs := [.int .i64 (n), .agg (ints r).toArray, .agg (ints q).toArray, .int .i64 (a)]) rfl Try.call20 (iChain_ok _ _ _ _ _ (by first | assumption | exact rw_len (by assumption) (by omega)) (by first | assumption | exact rw_len (by assumption) (by omega)) hok (i' := H.length + 3) (H' := H ++ [AObj.row false (ints r), AObj.row false (ints q), AObj.row false (ints (chl r q a (chK r q a))), AObj.row false (ints (chl r q a (chK r q a)))]) (by exact List.length_append) (by exact List.append_assoc _ _ _))) ((by simp only [List.length_append, List.length_cons, List.length_nil]; omega)) ?_
      refine DTr.p rfl rfl (p_move rfl) ?_
      refine DTr.p rfl rfl (p_extract rfl rfl) ?_
      refine DTr.p rfl rfl (p_extract rfl rfl) ?_
      refine DTr.p rfl rfl (p_assign rfl) ?_
      refine DTr.p rfl rfl (p_assign rfl) ?_
      exact DTr.nil ⟨by kernel_rfl, dyn_ext rfl (by intro f hf; simp at hf; rcases hf with rfl | rfl | rfl | rfl | rfl | rfl | rfl | rfl | rfl | rfl | rfl | rfl <;> first | (intro h; cases h; done) | (intro _; first | exact ⟨[], (List.append_nil _).symm⟩ | exact ⟨[AObj.row false (ints (chl r q a (chK r q a)))], by dsimp only; rw [List.append_assoc]; rfl⟩)), rfl, Sub.cons' rfl rfl (Sub.cons' rfl rfl (Sub.cons' rfl rfl (Sub.cons' rfl rfl (Sub.cons' rfl rfl (Sub.cons' rfl rfl (Sub.cons' rfl rfl (Sub.cons' rfl rfl (Sub.cons' rfl rfl (Sub.cons' rfl rfl (Sub.cons' rfl rfl (Sub.nil _)))))))))))⟩
    · rintro t' _ ⟨rfl, hsub⟩
      refine AWp.sub hsub ?_
      refine AWp.seq ?_
      refine AWp.seq ?_
      refine AWp.region ?_
      refine AOps.p rfl (p_move rfl) ?_
      refine AOps.p rfl (p_move rfl) ?_
      refine AOps.c rfl (o_call (vs := [.slice (some ⟨H.length + 3, 0, none⟩) (chK r q a + 1) (chC r q a), .slice (some ⟨H.length + 2, 0, none⟩) (chK r q a + 1) (chC r q a)]) rfl Try.call21 (eqI_same _ _ _ _ _ _ _ _ (SlIs.mk (own_row rfl) (chl_length r q a (chK r q a))) (SlIs.mk (own_row rfl) (chl_length r q a (chK r q a))) (by omega) (by omega))) ?_
      refine AOps.p rfl (p_not rfl) ?_
      refine AOps.p rfl (p_move rfl) ?_
      refine AOps.gp rfl rfl rfl (p_move rfl) ?_
      refine AOps.gp rfl rfl rfl (p_move rfl) ?_
      refine AOps.gp rfl rfl rfl (p_neq rfl rfl) ?_
      refine AOps.p rfl (p_pickF rfl rfl) ?_
      refine AOps.nil ?_
      refine AWp.cond rfl (fun c1 => ?_) (fun c1 => ?_)
      · have d1 := c1
        try simp only [inB, Bool.and_eq_true, Bool.or_eq_true, Bool.and_eq_false_iff, Bool.or_eq_false_iff, Bool.not_eq_true', Bool.not_eq_false', decide_eq_true_eq, decide_eq_false_iff_not, Int.not_le, Int.not_lt] at d1
        exact absurd c1 (by simp)
      · have d1 := c1
        try simp only [inB, Bool.and_eq_true, Bool.or_eq_true, Bool.and_eq_false_iff, Bool.or_eq_false_iff, Bool.not_eq_true', Bool.not_eq_false', decide_eq_true_eq, decide_eq_false_iff_not, Int.not_le, Int.not_lt] at d1
        refine AWp.skip ?_
        refine AWp.seq ?_
        refine AWp.region ?_
        refine AOps.p rfl (p_assign rfl) ?_
        refine AOps.nil ?_
        refine AWp.seq ?_
        refine AWp.region ?_
        refine AOps.p rfl (p_move rfl) ?_
        refine AOps.p rfl (p_move rfl) ?_
        refine AOps.c rfl (o_call (vs := [.slice (some ⟨H.length + 3, 0, none⟩) (chK r q a + 1) (chC r q a), .int .i64 (1)]) rfl Try.call22 (markI_ok _ _ _ _ _ _ (chl_length r q a (chK r q a)) (by omega) (by omega) (own_row rfl) (H' := H ++ [AObj.row false (ints r), AObj.row false (ints q), AObj.row false (ints (chl r q a (chK r q a))), AObj.row false (ints (mkl 1 (chK r q a + 1)))]) ((set_own _ _ _ _).trans rfl))) ?_
        refine AOps.p rfl (p_assign rfl) ?_
        refine AOps.nil ?_
        refine AWp.seq ?_
        refine AWp.region ?_
        refine AOps.p rfl (p_assign rfl) ?_
        refine AOps.nil ?_
        refine AWp.seq ?_
        refine AWp.region ?_
        refine AOps.p rfl (p_move rfl) ?_
        refine AOps.p rfl (p_move rfl) ?_
        refine AOps.c rfl (o_call (vs := [.slice (some ⟨H.length + 3, 0, none⟩) (chK r q a + 1) (chC r q a), .int .i64 (1)]) rfl Try.call23 (heldI_ok _ _ _ _ _ _ (by omega) (by omega) (own_row rfl))) ?_
        refine AOps.p rfl (p_assign rfl) ?_
        refine AOps.nil ?_
        refine AWp.seq ?_
        refine AWp.seq ?_
        refine AWp.region ?_
        refine AOps.p rfl (p_move rfl) ?_
        refine AOps.p rfl (p_lss rfl rfl) ?_
        refine AOps.nil ?_
        refine AWp.cond rfl (fun c2 => ?_) (fun c2 => ?_)
        · have d2 := c2
          try simp only [inB, Bool.and_eq_true, Bool.or_eq_true, Bool.and_eq_false_iff, Bool.or_eq_false_iff, Bool.not_eq_true', Bool.not_eq_false', decide_eq_true_eq, decide_eq_false_iff_not, Int.not_le, Int.not_lt] at d2
          exact absurd c2 (by simp <;> omega)
        · have d2 := c2
          try simp only [inB, Bool.and_eq_true, Bool.or_eq_true, Bool.and_eq_false_iff, Bool.or_eq_false_iff, Bool.not_eq_true', Bool.not_eq_false', decide_eq_true_eq, decide_eq_false_iff_not, Int.not_le, Int.not_lt] at d2
          refine AWp.skip ?_
          refine AWp.seq ?_
          refine AWp.seq ?_
          refine AWp.region ?_
          refine AOps.p rfl (p_move rfl) ?_
          refine AOps.p rfl (p_move rfl) ?_
          refine AOps.p rfl (p_neq rfl rfl) ?_
          refine AOps.nil ?_
          refine AWp.cond rfl (fun c3 => ?_) (fun c3 => ?_)
          · have d3 := c3
            try simp only [inB, Bool.and_eq_true, Bool.or_eq_true, Bool.and_eq_false_iff, Bool.or_eq_false_iff, Bool.not_eq_true', Bool.not_eq_false', decide_eq_true_eq, decide_eq_false_iff_not, Int.not_le, Int.not_lt] at d3
            exact absurd c3 (by simp)
          · have d3 := c3
            try simp only [inB, Bool.and_eq_true, Bool.or_eq_true, Bool.and_eq_false_iff, Bool.or_eq_false_iff, Bool.not_eq_true', Bool.not_eq_false', decide_eq_true_eq, decide_eq_false_iff_not, Int.not_le, Int.not_lt] at d3
            refine AWp.skip ?_
            refine AWp.cut (fun t' H' => H ++ [AObj.row false (ints r), AObj.row false (ints q), AObj.row false (ints (chl r q a (chK r q a))), AObj.row false (ints (mkl 1 (chK r q a + 1))), AObj.row false (ints (chl r q a (chK r q a)))] = H' ∧ Sub [(0, .int .i64 (n)), (1, .agg (ints r).toArray), (2, .agg (ints q).toArray), (3, .int .i64 (a)), (5, .pointer (some ⟨H.length + 0, 0, none⟩)), (6, .pointer (some ⟨H.length + 1, 0, none⟩)), (8, .bool false), (9, .slice (some ⟨H.length + 2, 0, none⟩) (chK r q a + 1) (chC r q a)), (10, .int .i64 (0)), (11, .slice (some ⟨H.length + 3, 0, none⟩) (chK r q a + 1) (chC r q a)), (12, .int .i64 (0)), (13, .int .i64 (1 + ((chK r q a + 1 : Nat) : Int))), (14, .int .i64 (1 + ((chK r q a + 1 : Nat) : Int))), (15, .slice (some ⟨H.length + 4, 0, none⟩) (chK r q a + 1) (chC r q a)), (16, .int .i64 (0)), (45, .bool (!decide (0 = 0))), (53, .bool (decide (1 + ((chK r q a + 1 : Nat) : Int) < 0))), (56, .bool (!decide (1 + ((chK r q a + 1 : Nat) : Int) = 1 + ((chK r q a + 1 : Nat) : Int))))] t') ?_ ?_
            · refine DTr.start mix ?_
              refine DTr.p rfl rfl (p_move rfl) ?_
              refine DTr.r rfl rfl (r_loadN (vs := ints r) rfl Try.isAgg23 Try.sizeOf23 (by rw [ints_length]; first | rfl | omega | (simp only [List.length_set, List.length_replicate]; omega))) (many_read (row_cells (own_row rfl)) ints_flat) ?_
              refine DTr.w rfl rfl (o_call (vs := [.agg (ints r).toArray]) rfl Try.call10 (toRound_ok _ _ (by first | assumption | exact rw_len (by assumption) (by omega)))) (Nat.le_refl _) ?_
              refine DTr.r rfl rfl (r_loadN (vs := ints q) rfl Try.isAgg23 Try.sizeOf23 (by rw [ints_length]; first | rfl | omega | (simp only [List.length_set, List.length_replicate]; omega))) (many_read (row_cells (own_row rfl)) ints_flat) ?_
              refine DTr.w rfl rfl (o_call (vs := [.agg (ints q).toArray]) rfl Try.call10 (toRound_ok _ _ (by first | assumption | exact rw_len (by assumption) (by omega)))) (Nat.le_refl _) ?_
              refine DTr.p rfl rfl (p_move rfl) ?_
              refine DTr.w rfl rfl (o_call (vs := [.int .i64 (n), .agg (ints r).toArray, .agg (ints q).toArray, .int .i64 (a)]) rfl Try.call20 (iChain_ok _ _ _ _ _ (by first | assumption | exact rw_len (by assumption) (by omega)) (by first | assumption | exact rw_len (by assumption) (by omega)) hok (i' := H.length + 4) (H' := H ++ [AObj.row false (ints r), AObj.row false (ints q), AObj.row false (ints (chl r q a (chK r q a))), AObj.row false (ints (mkl 1 (chK r q a + 1))), AObj.row false (ints (chl r q a (chK r q a)))]) (by exact List.length_append) (by exact List.append_assoc _ _ _))) ((by simp only [List.length_append, List.length_cons, List.length_nil]; omega)) ?_
              refine DTr.p rfl rfl (p_move rfl) ?_
              refine DTr.p rfl rfl (p_extract rfl rfl) ?_
              refine DTr.p rfl rfl (p_extract rfl rfl) ?_
              refine DTr.p rfl rfl (p_assign rfl) ?_
              refine DTr.p rfl rfl (p_assign rfl) ?_
              exact DTr.nil ⟨by kernel_rfl, dyn_ext rfl (by intro f hf; simp at hf; rcases hf with rfl | rfl | rfl | rfl | rfl | rfl | rfl | rfl | rfl | rfl | rfl | rfl <;> first | (intro h; cases h; done) | (intro _; first | exact ⟨[], (List.append_nil _).symm⟩ | exact ⟨[AObj.row false (ints (chl r q a (chK r q a)))], by dsimp only; rw [List.append_assoc]; rfl⟩)), rfl, Sub.cons' rfl rfl (Sub.cons' rfl rfl (Sub.cons' rfl rfl (Sub.cons' rfl rfl (Sub.cons' rfl rfl (Sub.cons' rfl rfl (Sub.cons' rfl rfl (Sub.cons' rfl rfl (Sub.cons' rfl rfl (Sub.cons' rfl rfl (Sub.cons' rfl rfl (Sub.cons' rfl rfl (Sub.cons' rfl rfl (Sub.cons' rfl rfl (Sub.cons' rfl rfl (Sub.cons' rfl rfl (Sub.cons' rfl rfl (Sub.cons' rfl rfl (Sub.nil _))))))))))))))))))⟩
            · rintro t' _ ⟨rfl, hsub⟩
              refine AWp.sub hsub ?_
              refine AWp.seq ?_
              refine AWp.seq ?_
              refine AWp.region ?_
              refine AOps.p rfl (p_move rfl) ?_
              refine AOps.p rfl (p_move rfl) ?_
              refine AOps.c rfl (o_call (vs := [.slice (some ⟨H.length + 4, 0, none⟩) (chK r q a + 1) (chC r q a), .slice (some ⟨H.length + 2, 0, none⟩) (chK r q a + 1) (chC r q a)]) rfl Try.call21 (eqI_same _ _ _ _ _ _ _ _ (SlIs.mk (own_row rfl) (chl_length r q a (chK r q a))) (SlIs.mk (own_row rfl) (chl_length r q a (chK r q a))) (by omega) (by omega))) ?_
              refine AOps.p rfl (p_not rfl) ?_
              refine AOps.p rfl (p_move rfl) ?_
              refine AOps.gp rfl rfl rfl (p_move rfl) ?_
              refine AOps.gp rfl rfl rfl (p_move rfl) ?_
              refine AOps.gp rfl rfl rfl (p_neq rfl rfl) ?_
              refine AOps.p rfl (p_pickF rfl rfl) ?_
              refine AOps.nil ?_
              refine AWp.cond rfl (fun c4 => ?_) (fun c4 => ?_)
              · have d4 := c4
                try simp only [inB, Bool.and_eq_true, Bool.or_eq_true, Bool.and_eq_false_iff, Bool.or_eq_false_iff, Bool.not_eq_true', Bool.not_eq_false', decide_eq_true_eq, decide_eq_false_iff_not, Int.not_le, Int.not_lt] at d4
                exact absurd c4 (by simp)
              · have d4 := c4
                try simp only [inB, Bool.and_eq_true, Bool.or_eq_true, Bool.and_eq_false_iff, Bool.or_eq_false_iff, Bool.not_eq_true', Bool.not_eq_false', decide_eq_true_eq, decide_eq_false_iff_not, Int.not_le, Int.not_lt] at d4
                refine AWp.skip ?_
                refine AWp.seq ?_
                refine AWp.region ?_
                refine AOps.p rfl (p_assign rfl) ?_
                refine AOps.nil ?_
                refine AWp.seq ?_
                refine AWp.region ?_
                refine AOps.p rfl (p_move rfl) ?_
                refine AOps.p rfl (p_move rfl) ?_
                refine AOps.c rfl (o_call (vs := [.slice (some ⟨H.length + 3, 0, none⟩) (chK r q a + 1) (chC r q a), .int .i64 (1)]) rfl Try.call23 (heldI_ok _ _ _ _ _ _ (by omega) (by omega) (own_row rfl))) ?_
                refine AOps.p rfl (p_assign rfl) ?_
                refine AOps.nil ?_
                refine AWp.seq ?_
                refine AWp.seq ?_
                refine AWp.region ?_
                refine AOps.p rfl (p_move rfl) ?_
                refine AOps.p rfl (p_lss rfl rfl) ?_
                refine AOps.nil ?_
                refine AWp.cond rfl (fun c5 => ?_) (fun c5 => ?_)
                · have d5 := c5
                  try simp only [inB, Bool.and_eq_true, Bool.or_eq_true, Bool.and_eq_false_iff, Bool.or_eq_false_iff, Bool.not_eq_true', Bool.not_eq_false', decide_eq_true_eq, decide_eq_false_iff_not, Int.not_le, Int.not_lt] at d5
                  exact absurd c5 (by simp <;> omega)
                · have d5 := c5
                  try simp only [inB, Bool.and_eq_true, Bool.or_eq_true, Bool.and_eq_false_iff, Bool.or_eq_false_iff, Bool.not_eq_true', Bool.not_eq_false', decide_eq_true_eq, decide_eq_false_iff_not, Int.not_le, Int.not_lt] at d5
                  refine AWp.skip ?_
                  refine AWp.seq ?_
                  refine AWp.seq ?_
                  refine AWp.region ?_
                  refine AOps.p rfl (p_move rfl) ?_
                  refine AOps.p rfl (p_move rfl) ?_
                  refine AOps.p rfl (p_neq rfl rfl) ?_
                  refine AOps.nil ?_
                  refine AWp.cond rfl (fun c6 => ?_) (fun c6 => ?_)
                  · have d6 := c6
                    try simp only [inB, Bool.and_eq_true, Bool.or_eq_true, Bool.and_eq_false_iff, Bool.or_eq_false_iff, Bool.not_eq_true', Bool.not_eq_false', decide_eq_true_eq, decide_eq_false_iff_not, Int.not_le, Int.not_lt] at d6
                    exact absurd c6 (by simp)
                  · have d6 := c6
                    try simp only [inB, Bool.and_eq_true, Bool.or_eq_true, Bool.and_eq_false_iff, Bool.or_eq_false_iff, Bool.not_eq_true', Bool.not_eq_false', decide_eq_true_eq, decide_eq_false_iff_not, Int.not_le, Int.not_lt] at d6
                    refine AWp.skip ?_
                    refine AWp.seq ?_
                    refine AWp.region ?_
                    refine AOps.p rfl (p_assign rfl) ?_
                    refine AOps.nil ?_
                    refine AWp.ret ?_
                    refine ends (.inr rfl) (res1 rfl (rv_tmp rfl)) ?_ (Fin.dropOwn (flatB_ok rfl))
                    -- return 1: .bool true
                    exact rfl

theorem lawChain_ok (H : AHeap) (n : Int) (r q : List Int) (a : Int) (hr : r.length = 14) (hq : q.length = 14) : ACall Try.prog 7 [.int .i64 n, .agg (ints r).toArray, .agg (ints q).toArray, .int .i64 a] H (.bool true) H := by
  cases h : chOk n r q a with
  | true => exact lawChain_yes H n r q a hr hq h
  | false => exact lawChain_no H n r q a hr hq h
end Go.Proofs.Ytgageobfalmhpaa