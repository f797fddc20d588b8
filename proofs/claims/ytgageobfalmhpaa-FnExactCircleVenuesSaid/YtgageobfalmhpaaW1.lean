import Derived.Test.YtgageobfalmhpaaAm8d
import Derived.Test.YtgageobfalmhpaaProg
import Derived.KernelRfl
namespace Go.Proofs.Ytgageobfalmhpaa
open Go Go.RowKit Am
set_option linter.unusedVariables false
set_option linter.unusedSimpArgs false
theorem mix : Try.prog.follows .mixedOrders = true := by kernel_rfl
def inB (n lo hi : Int) : Bool := decide (lo ≤ n) && decide (n ≤ hi)
theorem inB_of {n lo hi : Int} (h : inB n lo hi = true) : lo ≤ n ∧ n ≤ hi := by simpa [inB] using h
def rndAt (n : Int) (r : List Int) (j : Nat) : Bool := if (j : Int) < n then inB (rd r j) 0 (n - 1) && decide (rd r (rd r j).toNat = j) else decide (rd r j = 0)
def isRnd (n : Int) (r : List Int) : Bool := inB n 2 14 && (List.range 14).all (rndAt n r)
def cpy (a : List Int) (m i : Nat) : List Int := (List.range m).map fun j => if j < i then rd a j else 0
theorem cpy_length (a : List Int) (m i : Nat) : (cpy a m i).length = m := by simp [cpy]
theorem cpy_zero (a : List Int) (m : Nat) : cpy a m 0 = List.replicate m 0 := by
  apply List.ext_getElem?
  intro j
  by_cases h : j < m <;> simp [cpy, h, List.getElem?_replicate]
theorem cpy_set (a : List Int) (m i : Nat) (h : i < m) : (cpy a m i).set i (rd a i) = cpy a m (i + 1) := by
  apply List.ext_getElem?
  intro j
  rw [List.getElem?_set]
  by_cases hj : i = j
  · subst hj; simp [cpy, h]
  · rw [if_neg hj]
    by_cases h3 : j < m
    · have : (j < i) = (j < i + 1) := propext (by omega)
      simp [cpy, h3, this]
    · simp [cpy, h3]
theorem cpy_full (a : List Int) (m i : Nat) (h : m ≤ i) (hm : a.length = m) : cpy a m i = a := by
  apply List.ext_getElem?
  intro j
  by_cases h3 : j < m
  · simp [cpy, h3, (by omega : j < i), rd, List.getD_eq_getElem?_getD, List.getElem?_eq_getElem (by omega : j < a.length)]
  · rw [List.getElem?_eq_none (by rw [cpy_length]; omega), List.getElem?_eq_none (by omega)]
theorem rnd_E (n : Int) (r : List Int) (k : Nat) : rndAt n r k = !((decide (n ≤ (k : Int)) && !decide (rd r k = 0)) || (decide ((k : Int) < n) && (!inB (rd r k) 0 (n - 1) || !decide (rd r (rd r k).toNat = (k : Int))))) := by
  unfold rndAt
  by_cases h : (k : Int) < n
  · simp [h, Int.not_le.2 h]
  · simp [h, Int.not_lt.1 h]
theorem isRnd_n {n : Int} {r : List Int} (h : inB n 2 14 = false) : isRnd n r = false := by simp [isRnd, h]
theorem isRnd_at {n : Int} {r : List Int} {k : Nat} (hk : k < 14) (h : rndAt n r k = false) : isRnd n r = false := by
  unfold isRnd
  rw [Bool.and_eq_false_iff]
  right
  rw [List.all_eq_false]
  exact ⟨k, List.mem_range.2 hk, by simp [h]⟩
theorem isRnd_all {n : Int} {r : List Int} {k : Nat} (hn : inB n 2 14 = true) (hk : 14 ≤ k) (h : ∀ j, j < k → rndAt n r j = true) : isRnd n r = true := by
  unfold isRnd
  rw [hn, Bool.true_and, List.all_eq_true]
  intro j hj
  exact h j (by have := List.mem_range.1 hj; omega)
theorem rnd_step {n : Int} {r : List Int} {k : Nat} (h : ∀ j, j < k → rndAt n r j = true) (hk : rndAt n r k = true) : ∀ j, j < k + 1 → rndAt n r j = true := by
  intro j hj
  rcases Nat.lt_succ_iff_lt_or_eq.1 hj with hj | rfl
  · exact h j hj
  · exact hk

theorem l01In_ok (H : AHeap) (n lo hi : Int) : ACall Try.prog 34 ([.int .i64 (n), .int .i64 (lo), .int .i64 (hi)]) H (.bool (inB n lo hi)) H := by
  refine ACall.body (N := 15) [(0, .int .i64 (n)), (1, .int .i64 (lo)), (2, .int .i64 (hi))] Try.func34 rfl rfl rfl rfl ?_
  refine AWp.seq ?_
  refine AWp.region ?_
  refine AOps.p rfl (p_assign rfl) ?_
  refine AOps.nil ?_
  refine AWp.cut (fun t' H' => H = H' ∧ Sub [(0, .int .i64 (n)), (1, .int .i64 (lo)), (2, .int .i64 (hi)), (6, .bool ((decide (lo ≤ n)) && (decide (n ≤ hi))))] t') ?_ ?_
  · refine AWp.region ?_
    refine AOps.p rfl (p_move rfl) ?_
    refine AOps.p rfl (p_move rfl) ?_
    refine AOps.p rfl (p_geq rfl rfl) ?_
    refine AOps.p rfl (p_move rfl) ?_
    refine AOps.cases (d := 10) rfl (fun c1 => ?_) (fun c1 => ?_)
    · have d1 := c1
      try simp only [inB, Bool.and_eq_true, Bool.or_eq_true, Bool.and_eq_false_iff, Bool.or_eq_false_iff, Bool.not_eq_true', Bool.not_eq_false', decide_eq_true_eq, decide_eq_false_iff_not, Int.not_le, Int.not_lt] at d1
      refine AOps.gp rfl rfl rfl (p_move rfl) ?_
      refine AOps.gp rfl rfl rfl (p_move rfl) ?_
      refine AOps.gp rfl rfl rfl (p_leq rfl rfl) ?_
      refine AOps.p rfl (p_pickT rfl rfl) ?_
      refine AOps.p rfl (p_assign rfl) ?_
      refine AOps.nil ?_
      exact ⟨rfl, Sub.cons' rfl rfl (Sub.cons' rfl rfl (Sub.cons' rfl rfl (Sub.cons' rfl (bool_eq (by simp only [c1, Bool.true_and, Bool.false_and, Bool.and_true, Bool.and_false, Bool.true_or, Bool.false_or, Bool.or_true, Bool.or_false, Bool.not_true, Bool.not_false, cond_true, cond_false])) (Sub.nil _))))⟩
    · have d1 := c1
      try simp only [inB, Bool.and_eq_true, Bool.or_eq_true, Bool.and_eq_false_iff, Bool.or_eq_false_iff, Bool.not_eq_true', Bool.not_eq_false', decide_eq_true_eq, decide_eq_false_iff_not, Int.not_le, Int.not_lt] at d1
      refine AOps.gn rfl rfl rfl ?_
      refine AOps.gn rfl rfl rfl ?_
      refine AOps.gn rfl rfl rfl ?_
      refine AOps.p rfl (p_pickF rfl rfl) ?_
      refine AOps.p rfl (p_assign rfl) ?_
      refine AOps.nil ?_
      exact ⟨rfl, Sub.cons' rfl rfl (Sub.cons' rfl rfl (Sub.cons' rfl rfl (Sub.cons' rfl (bool_eq (by simp only [c1, Bool.true_and, Bool.false_and, Bool.and_true, Bool.and_false, Bool.true_or, Bool.false_or, Bool.or_true, Bool.or_false, Bool.not_true, Bool.not_false, cond_true, cond_false])) (Sub.nil _))))⟩
  · rintro t' _ ⟨rfl, hsub⟩
    refine AWp.sub hsub ?_
    refine AWp.ret ?_
    refine ends (.inr rfl) (res1 rfl (rv_tmp rfl)) ?_ (Fin.refl _ _ _)
    -- return 1: .bool ((decide (lo ≤ n)) && (decide (n ≤ hi)))
    exact rfl

theorem between_ok (H : AHeap) (n lo hi : Int) : ACall Try.prog 30 ([.int .i64 (n), .int .i64 (lo), .int .i64 (hi)]) H (.bool (inB n lo hi)) H := by
  refine ACall.body (N := 15) [(0, .int .i64 (n)), (1, .int .i64 (lo)), (2, .int .i64 (hi))] Try.func30 rfl rfl rfl rfl ?_
  refine AWp.seq ?_
  refine AWp.region ?_
  refine AOps.p rfl (p_assign rfl) ?_
  refine AOps.nil ?_
  refine AWp.cut (fun t' H' => H = H' ∧ Sub [(0, .int .i64 (n)), (1, .int .i64 (lo)), (2, .int .i64 (hi)), (6, .bool ((decide (lo ≤ n)) && (decide (n ≤ hi))))] t') ?_ ?_
  · refine AWp.region ?_
    refine AOps.p rfl (p_move rfl) ?_
    refine AOps.p rfl (p_move rfl) ?_
    refine AOps.p rfl (p_geq rfl rfl) ?_
    refine AOps.p rfl (p_move rfl) ?_
    refine AOps.cases (d := 10) rfl (fun c1 => ?_) (fun c1 => ?_)
    · have d1 := c1
      try simp only [inB, Bool.and_eq_true, Bool.or_eq_true, Bool.and_eq_false_iff, Bool.or_eq_false_iff, Bool.not_eq_true', Bool.not_eq_false', decide_eq_true_eq, decide_eq_false_iff_not, Int.not_le, Int.not_lt] at d1
      refine AOps.gp rfl rfl rfl (p_move rfl) ?_
      refine AOps.gp rfl rfl rfl (p_move rfl) ?_
      refine AOps.gp rfl rfl rfl (p_leq rfl rfl) ?_
      refine AOps.p rfl (p_pickT rfl rfl) ?_
      refine AOps.p rfl (p_assign rfl) ?_
      refine AOps.nil ?_
      exact ⟨rfl, Sub.cons' rfl rfl (Sub.cons' rfl rfl (Sub.cons' rfl rfl (Sub.cons' rfl (bool_eq (by simp only [c1, Bool.true_and, Bool.false_and, Bool.and_true, Bool.and_false, Bool.true_or, Bool.false_or, Bool.or_true, Bool.or_false, Bool.not_true, Bool.not_false, cond_true, cond_false])) (Sub.nil _))))⟩
    · have d1 := c1
      try simp only [inB, Bool.and_eq_true, Bool.or_eq_true, Bool.and_eq_false_iff, Bool.or_eq_false_iff, Bool.not_eq_true', Bool.not_eq_false', decide_eq_true_eq, decide_eq_false_iff_not, Int.not_le, Int.not_lt] at d1
      refine AOps.gn rfl rfl rfl ?_
      refine AOps.gn rfl rfl rfl ?_
      refine AOps.gn rfl rfl rfl ?_
      refine AOps.p rfl (p_pickF rfl rfl) ?_
      refine AOps.p rfl (p_assign rfl) ?_
      refine AOps.nil ?_
      exact ⟨rfl, Sub.cons' rfl rfl (Sub.cons' rfl rfl (Sub.cons' rfl rfl (Sub.cons' rfl (bool_eq (by simp only [c1, Bool.true_and, Bool.false_and, Bool.and_true, Bool.and_false, Bool.true_or, Bool.false_or, Bool.or_true, Bool.or_false, Bool.not_true, Bool.not_false, cond_true, cond_false])) (Sub.nil _))))⟩
  · rintro t' _ ⟨rfl, hsub⟩
    refine AWp.sub hsub ?_
    refine AWp.ret ?_
    refine ends (.inr rfl) (res1 rfl (rv_tmp rfl)) ?_ (Fin.refl _ _ _)
    -- return 1: .bool ((decide (lo ≤ n)) && (decide (n ≤ hi)))
    exact rfl

theorem l01Round_ok (H : AHeap) (n : Int) (r : List Int) (hr : r.length = 14) : ACall Try.prog 29 ([.int .i64 (n), .agg (ints r).toArray]) H (.bool (isRnd n r)) H := by
  refine ACall.body (N := 45) [(0, .int .i64 (n)), (1, .agg (ints r).toArray)] Try.func29 rfl rfl rfl rfl ?_
  refine AWp.seq ?_
  refine AWp.region ?_
  refine AOps.c rfl (s_box (i := H.length + 0) (cs := ints r) rfl rfl rfl rfl) ?_
  refine AOps.p rfl (p_assign rfl) ?_
  refine AOps.nil ?_
  refine AWp.seq ?_
  refine AWp.seq ?_
  refine AWp.region ?_
  refine AOps.p rfl (p_move rfl) ?_
  refine AOps.c rfl (o_call (vs := [.int .i64 (n), .int .i64 (2), .int .i64 (14)]) rfl Try.call34 (l01In_ok _ _ _ _)) ?_
  refine AOps.p rfl (p_not rfl) ?_
  refine AOps.nil ?_
  refine AWp.cond rfl (fun c1 => ?_) (fun c1 => ?_)
  · have d1 := c1
    try simp only [inB, Bool.and_eq_true, Bool.or_eq_true, Bool.and_eq_false_iff, Bool.or_eq_false_iff, Bool.not_eq_true', Bool.not_eq_false', decide_eq_true_eq, decide_eq_false_iff_not, Int.not_le, Int.not_lt] at d1
    refine AWp.seq ?_
    refine AWp.region ?_
    refine AOps.p rfl (p_assign rfl) ?_
    refine AOps.nil ?_
    refine AWp.ret ?_
    refine ends (.inr rfl) (res1 rfl (rv_tmp rfl)) ?_ (Fin.dropOwn (flatB_ok rfl))
    -- return 1: .bool false
    exact bool_eq (isRnd_n (by simpa using c1)).symm
  · have d1 := c1
    try simp only [inB, Bool.and_eq_true, Bool.or_eq_true, Bool.and_eq_false_iff, Bool.or_eq_false_iff, Bool.not_eq_true', Bool.not_eq_false', decide_eq_true_eq, decide_eq_false_iff_not, Int.not_le, Int.not_lt] at d1
    have hn := inB_of (by simpa using c1)
    have hn1 := hn.1; have hn2 := hn.2
    refine AWp.skip ?_
    refine AWp.seq ?_
    refine AWp.seq ?_
    refine AWp.region ?_
    refine AOps.p rfl (p_assign rfl) ?_
    refine AOps.nil ?_
    refine AWp.block ?_
    refine AWp.round (α := Nat) (fun k => [(0, .int .i64 (n)), (1, .agg (ints r).toArray), (3, .pointer (some ⟨H.length + 0, 0, none⟩)), (4, .bool false), (5, .int .i64 (((k : Nat) : Int))), (8, .bool (!(inB n 2 14)))]) (fun k => H ++ [AObj.row false (ints r)]) (fun k => k ≤ 14 ∧ ∀ j, j < k → rndAt n r j = true) (fun k => 14 - k) 0 ⟨by omega, fun j h => absurd h (Nat.not_lt_zero j)⟩ (Sub.cons' rfl rfl (Sub.cons' rfl rfl (Sub.cons' rfl rfl (Sub.cons' rfl rfl (Sub.cons' rfl rfl (Sub.cons' rfl rfl (Sub.nil _))))))) rfl ?_
    intro k hInv0
    obtain ⟨hk, hI⟩ := hInv0
    refine AWp.sub (t' := [(0, .int .i64 (n)), (1, .agg (ints r).toArray), (3, .pointer (some ⟨H.length + 0, 0, none⟩)), (4, .bool false), (5, .int .i64 (((k : Nat) : Int))), (8, .bool (!(inB n 2 14)))]) (Sub.refl _) ?_
    refine AWp.heap (H' := H ++ [AObj.row false (ints r)]) rfl ?_
    refine AWp.seq ?_
    refine AWp.seq ?_
    refine AWp.region ?_
    refine AOps.p rfl (p_move rfl) ?_
    refine AOps.p rfl (p_lss rfl rfl) ?_
    refine AOps.nil ?_
    refine AWp.cond rfl (fun c2 => ?_) (fun c2 => ?_)
    · have d2 := c2
      try simp only [inB, Bool.and_eq_true, Bool.or_eq_true, Bool.and_eq_false_iff, Bool.or_eq_false_iff, Bool.not_eq_true', Bool.not_eq_false', decide_eq_true_eq, decide_eq_false_iff_not, Int.not_le, Int.not_lt] at d2
      refine AWp.skip ?_
      refine AWp.seq ?_
      refine AWp.block ?_
      refine AWp.cut (fun t' H' => H ++ [AObj.row false (ints r)] = H' ∧ Sub [(0, .int .i64 (n)), (1, .agg (ints r).toArray), (3, .pointer (some ⟨H.length + 0, 0, none⟩)), (4, .bool false), (5, .int .i64 (((k : Nat) : Int))), (8, .bool (!(inB n 2 14))), (10, .bool (decide (((k : Nat) : Int) < 14))), (44, .bool (((decide (n ≤ ((k : Nat) : Int))) && (!decide (rd r k = 0))) || ((decide (((k : Nat) : Int) < n)) && ((!(inB (rd r k) 0 (n - 1))) || (!decide (rd r ((rd r k).toNat) = ((k : Nat) : Int)))))))] t') ?_ ?_
      · refine AWp.region ?_
        refine AOps.p rfl (p_move rfl) ?_
        refine AOps.p rfl (p_move rfl) ?_
        refine AOps.p rfl (p_geq rfl rfl) ?_
        refine AOps.p rfl (p_move rfl) ?_
        refine AOps.cases (d := 16) rfl (fun c3 => ?_) (fun c3 => ?_)
        · have d3 := c3
          try simp only [inB, Bool.and_eq_true, Bool.or_eq_true, Bool.and_eq_false_iff, Bool.or_eq_false_iff, Bool.not_eq_true', Bool.not_eq_false', decide_eq_true_eq, decide_eq_false_iff_not, Int.not_le, Int.not_lt] at d3
          refine AOps.gp rfl rfl rfl (p_move rfl) ?_
          refine AOps.gp rfl rfl rfl (s_indexArr (q := k) Try.underlying25 Try.sizeOf2 rfl rfl (by omega) (by omega) (by omega)) ?_
          refine AOps.gc rfl rfl rfl (s_load Try.isAgg2 rfl (row_cell (own_row rfl) (ints_get (by omega)))) ?_
          refine AOps.gp rfl rfl rfl (p_neq rfl rfl) ?_
          refine AOps.p rfl (p_pickT rfl rfl) ?_
          refine AOps.p rfl (p_move rfl) ?_
          refine AOps.cases (d := 22) rfl (fun c4 => ?_) (fun c4 => ?_)
          · have d4 := c4
            try simp only [inB, Bool.and_eq_true, Bool.or_eq_true, Bool.and_eq_false_iff, Bool.or_eq_false_iff, Bool.not_eq_true', Bool.not_eq_false', decide_eq_true_eq, decide_eq_false_iff_not, Int.not_le, Int.not_lt] at d4
            refine AOps.gn rfl rfl rfl ?_
            refine AOps.gn rfl rfl rfl ?_
            refine AOps.gn rfl rfl rfl ?_
            refine AOps.gn rfl rfl rfl ?_
            refine AOps.gu rfl rfl rfl ?_
            refine AOps.gu rfl rfl rfl ?_
            refine AOps.gu rfl rfl rfl ?_
            refine AOps.gu rfl rfl rfl ?_
            refine AOps.gu rfl rfl rfl ?_
            refine AOps.gu rfl rfl rfl ?_
            refine AOps.gu rfl rfl rfl ?_
            refine AOps.gu rfl rfl rfl ?_
            refine AOps.gu rfl rfl rfl ?_
            refine AOps.gu rfl rfl rfl ?_
            refine AOps.gu rfl rfl rfl ?_
            refine AOps.gu rfl rfl rfl ?_
            refine AOps.gu rfl rfl rfl ?_
            refine AOps.gu rfl rfl rfl ?_
            refine AOps.gu rfl rfl rfl ?_
            refine AOps.gu rfl rfl rfl ?_
            refine AOps.gn rfl rfl rfl ?_
            refine AOps.p rfl (p_pickT rfl rfl) ?_
            refine AOps.nil ?_
            exact ⟨rfl, Sub.cons' rfl rfl (Sub.cons' rfl rfl (Sub.cons' rfl rfl (Sub.cons' rfl rfl (Sub.cons' rfl rfl (Sub.cons' rfl rfl (Sub.cons' rfl rfl (Sub.cons' rfl (bool_eq (by simp only [c3, c4, Bool.true_and, Bool.false_and, Bool.and_true, Bool.and_false, Bool.true_or, Bool.false_or, Bool.or_true, Bool.or_false, Bool.not_true, Bool.not_false, cond_true, cond_false])) (Sub.nil _))))))))⟩
          · have d4 := c4
            try simp only [inB, Bool.and_eq_true, Bool.or_eq_true, Bool.and_eq_false_iff, Bool.or_eq_false_iff, Bool.not_eq_true', Bool.not_eq_false', decide_eq_true_eq, decide_eq_false_iff_not, Int.not_le, Int.not_lt] at d4
            refine AOps.gp rfl rfl rfl (p_move rfl) ?_
            refine AOps.gp rfl rfl rfl (p_move rfl) ?_
            refine AOps.gp rfl rfl rfl (p_lss rfl rfl) ?_
            refine AOps.gp rfl rfl rfl (p_move rfl) ?_
            refine AOps.cases (d := 26) rfl (fun c5 => ?_) (fun c5 => ?_)
            · have d5 := c5
              try simp only [inB, Bool.and_eq_true, Bool.or_eq_true, Bool.and_eq_false_iff, Bool.or_eq_false_iff, Bool.not_eq_true', Bool.not_eq_false', decide_eq_true_eq, decide_eq_false_iff_not, Int.not_le, Int.not_lt] at d5
              refine AOps.gp rfl rfl rfl (p_move rfl) ?_
              refine AOps.gp rfl rfl rfl (s_indexArr (q := k) Try.underlying25 Try.sizeOf2 rfl rfl (by omega) (by omega) (by omega)) ?_
              refine AOps.gc rfl rfl rfl (s_load Try.isAgg2 rfl (row_cell (own_row rfl) (ints_get (by omega)))) ?_
              refine AOps.gp rfl rfl rfl (p_move rfl) ?_
              refine AOps.gp rfl rfl rfl (p_sub rfl rfl (wr64 (by omega) (by omega))) ?_
              refine AOps.gc rfl rfl rfl (o_call (vs := [.int .i64 (rd r k), .int .i64 (0), .int .i64 (n - 1)]) rfl Try.call34 (l01In_ok _ _ _ _)) ?_
              refine AOps.gp rfl rfl rfl (p_not rfl) ?_
              refine AOps.gp rfl rfl rfl (p_move rfl) ?_
              refine AOps.cases (d := 34) rfl (fun c6 => ?_) (fun c6 => ?_)
              · have d6 := c6
                try simp only [inB, Bool.and_eq_true, Bool.or_eq_true, Bool.and_eq_false_iff, Bool.or_eq_false_iff, Bool.not_eq_true', Bool.not_eq_false', decide_eq_true_eq, decide_eq_false_iff_not, Int.not_le, Int.not_lt] at d6
                refine AOps.gn rfl rfl rfl ?_
                refine AOps.gn rfl rfl rfl ?_
                refine AOps.gn rfl rfl rfl ?_
                refine AOps.gn rfl rfl rfl ?_
                refine AOps.gn rfl rfl rfl ?_
                refine AOps.gn rfl rfl rfl ?_
                refine AOps.gn rfl rfl rfl ?_
                refine AOps.gp rfl rfl rfl (p_pickT rfl rfl) ?_
                refine AOps.gp rfl rfl rfl (p_pickT rfl rfl) ?_
                refine AOps.p rfl (p_pickF rfl rfl) ?_
                refine AOps.nil ?_
                exact ⟨rfl, Sub.cons' rfl rfl (Sub.cons' rfl rfl (Sub.cons' rfl rfl (Sub.cons' rfl rfl (Sub.cons' rfl rfl (Sub.cons' rfl rfl (Sub.cons' rfl rfl (Sub.cons' rfl (bool_eq (by simp only [c3, c4, c5, c6, Bool.true_and, Bool.false_and, Bool.and_true, Bool.and_false, Bool.true_or, Bool.false_or, Bool.or_true, Bool.or_false, Bool.not_true, Bool.not_false, cond_true, cond_false])) (Sub.nil _))))))))⟩
              · have d6 := c6
                try simp only [inB, Bool.and_eq_true, Bool.or_eq_true, Bool.and_eq_false_iff, Bool.or_eq_false_iff, Bool.not_eq_true', Bool.not_eq_false', decide_eq_true_eq, decide_eq_false_iff_not, Int.not_le, Int.not_lt] at d6
                refine AOps.gp rfl rfl rfl (p_move rfl) ?_
                refine AOps.gp rfl rfl rfl (s_indexArr (q := k) Try.underlying25 Try.sizeOf2 rfl rfl (by omega) (by omega) (by omega)) ?_
                refine AOps.gc rfl rfl rfl (s_load Try.isAgg2 rfl (row_cell (own_row rfl) (ints_get (by omega)))) ?_
                refine AOps.gp rfl rfl rfl (s_indexArr (q := (rd r k).toNat) Try.underlying25 Try.sizeOf2 rfl rfl (by omega) (by omega) (by omega)) ?_
                refine AOps.gc rfl rfl rfl (s_load Try.isAgg2 rfl (row_cell (own_row rfl) (ints_get (by omega)))) ?_
                refine AOps.gp rfl rfl rfl (p_move rfl) ?_
                refine AOps.gp rfl rfl rfl (p_neq rfl rfl) ?_
                refine AOps.gp rfl rfl rfl (p_pickF rfl rfl) ?_
                refine AOps.gp rfl rfl rfl (p_pickT rfl rfl) ?_
                refine AOps.p rfl (p_pickF rfl rfl) ?_
                refine AOps.nil ?_
                exact ⟨rfl, Sub.cons' rfl rfl (Sub.cons' rfl rfl (Sub.cons' rfl rfl (Sub.cons' rfl rfl (Sub.cons' rfl rfl (Sub.cons' rfl rfl (Sub.cons' rfl rfl (Sub.cons' rfl (bool_eq (by simp only [c3, c4, c5, c6, Bool.true_and, Bool.false_and, Bool.and_true, Bool.and_false, Bool.true_or, Bool.false_or, Bool.or_true, Bool.or_false, Bool.not_true, Bool.not_false, cond_true, cond_false])) (Sub.nil _))))))))⟩
            · have d5 := c5
              try simp only [inB, Bool.and_eq_true, Bool.or_eq_true, Bool.and_eq_false_iff, Bool.or_eq_false_iff, Bool.not_eq_true', Bool.not_eq_false', decide_eq_true_eq, decide_eq_false_iff_not, Int.not_le, Int.not_lt] at d5
              refine AOps.gn rfl rfl rfl ?_
              refine AOps.gn rfl rfl rfl ?_
              refine AOps.gn rfl rfl rfl ?_
              refine AOps.gn rfl rfl rfl ?_
              refine AOps.gn rfl rfl rfl ?_
              refine AOps.gn rfl rfl rfl ?_
              refine AOps.gn rfl rfl rfl ?_
              refine AOps.gn rfl rfl rfl ?_
              refine AOps.gu rfl rfl rfl ?_
              refine AOps.gu rfl rfl rfl ?_
              refine AOps.gu rfl rfl rfl ?_
              refine AOps.gu rfl rfl rfl ?_
              refine AOps.gu rfl rfl rfl ?_
              refine AOps.gu rfl rfl rfl ?_
              refine AOps.gu rfl rfl rfl ?_
              refine AOps.gn rfl rfl rfl ?_
              refine AOps.gp rfl rfl rfl (p_pickF rfl rfl) ?_
              refine AOps.p rfl (p_pickF rfl rfl) ?_
              refine AOps.nil ?_
              exact ⟨rfl, Sub.cons' rfl rfl (Sub.cons' rfl rfl (Sub.cons' rfl rfl (Sub.cons' rfl rfl (Sub.cons' rfl rfl (Sub.cons' rfl rfl (Sub.cons' rfl rfl (Sub.cons' rfl (bool_eq (by simp only [c3, c4, c5, Bool.true_and, Bool.false_and, Bool.and_true, Bool.and_false, Bool.true_or, Bool.false_or, Bool.or_true, Bool.or_false, Bool.not_true, Bool.not_false, cond_true, cond_false])) (Sub.nil _))))))))⟩
        · have d3 := c3
          try simp only [inB, Bool.and_eq_true, Bool.or_eq_true, Bool.and_eq_false_iff, Bool.or_eq_false_iff, Bool.not_eq_true', Bool.not_eq_false', decide_eq_true_eq, decide_eq_false_iff_not, Int.not_le, Int.not_lt] at d3
          refine AOps.gn rfl rfl rfl ?_
          refine AOps.gn rfl rfl rfl ?_
          refine AOps.gn rfl rfl rfl ?_
          refine AOps.gn rfl rfl rfl ?_
          refine AOps.p rfl (p_pickF rfl rfl) ?_
          refine AOps.p rfl (p_move rfl) ?_
          refine AOps.gp rfl rfl rfl (p_move rfl) ?_
          refine AOps.gp rfl rfl rfl (p_move rfl) ?_
          refine AOps.gp rfl rfl rfl (p_lss rfl rfl) ?_
          refine AOps.gp rfl rfl rfl (p_move rfl) ?_
          refine AOps.cases (d := 26) rfl (fun c7 => ?_) (fun c7 => ?_)
          · have d7 := c7
            try simp only [inB, Bool.and_eq_true, Bool.or_eq_true, Bool.and_eq_false_iff, Bool.or_eq_false_iff, Bool.not_eq_true', Bool.not_eq_false', decide_eq_true_eq, decide_eq_false_iff_not, Int.not_le, Int.not_lt] at d7
            refine AOps.gp rfl rfl rfl (p_move rfl) ?_
            refine AOps.gp rfl rfl rfl (s_indexArr (q := k) Try.underlying25 Try.sizeOf2 rfl rfl (by omega) (by omega) (by omega)) ?_
            refine AOps.gc rfl rfl rfl (s_load Try.isAgg2 rfl (row_cell (own_row rfl) (ints_get (by omega)))) ?_
            refine AOps.gp rfl rfl rfl (p_move rfl) ?_
            refine AOps.gp rfl rfl rfl (p_sub rfl rfl (wr64 (by omega) (by omega))) ?_
            refine AOps.gc rfl rfl rfl (o_call (vs := [.int .i64 (rd r k), .int .i64 (0), .int .i64 (n - 1)]) rfl Try.call34 (l01In_ok _ _ _ _)) ?_
            refine AOps.gp rfl rfl rfl (p_not rfl) ?_
            refine AOps.gp rfl rfl rfl (p_move rfl) ?_
            refine AOps.cases (d := 34) rfl (fun c8 => ?_) (fun c8 => ?_)
            · have d8 := c8
              try simp only [inB, Bool.and_eq_true, Bool.or_eq_true, Bool.and_eq_false_iff, Bool.or_eq_false_iff, Bool.not_eq_true', Bool.not_eq_false', decide_eq_true_eq, decide_eq_false_iff_not, Int.not_le, Int.not_lt] at d8
              refine AOps.gn rfl rfl rfl ?_
              refine AOps.gn rfl rfl rfl ?_
              refine AOps.gn rfl rfl rfl ?_
              refine AOps.gn rfl rfl rfl ?_
              refine AOps.gn rfl rfl rfl ?_
              refine AOps.gn rfl rfl rfl ?_
              refine AOps.gn rfl rfl rfl ?_
              refine AOps.gp rfl rfl rfl (p_pickT rfl rfl) ?_
              refine AOps.gp rfl rfl rfl (p_pickT rfl rfl) ?_
              refine AOps.p rfl (p_pickF rfl rfl) ?_
              refine AOps.nil ?_
              exact ⟨rfl, Sub.cons' rfl rfl (Sub.cons' rfl rfl (Sub.cons' rfl rfl (Sub.cons' rfl rfl (Sub.cons' rfl rfl (Sub.cons' rfl rfl (Sub.cons' rfl rfl (Sub.cons' rfl (bool_eq (by simp only [c3, c7, c8, Bool.true_and, Bool.false_and, Bool.and_true, Bool.and_false, Bool.true_or, Bool.false_or, Bool.or_true, Bool.or_false, Bool.not_true, Bool.not_false, cond_true, cond_false])) (Sub.nil _))))))))⟩
            · have d8 := c8
              try simp only [inB, Bool.and_eq_true, Bool.or_eq_true, Bool.and_eq_false_iff, Bool.or_eq_false_iff, Bool.not_eq_true', Bool.not_eq_false', decide_eq_true_eq, decide_eq_false_iff_not, Int.not_le, Int.not_lt] at d8
              refine AOps.gp rfl rfl rfl (p_move rfl) ?_
              refine AOps.gp rfl rfl rfl (s_indexArr (q := k) Try.underlying25 Try.sizeOf2 rfl rfl (by omega) (by omega) (by omega)) ?_
              refine AOps.gc rfl rfl rfl (s_load Try.isAgg2 rfl (row_cell (own_row rfl) (ints_get (by omega)))) ?_
              refine AOps.gp rfl rfl rfl (s_indexArr (q := (rd r k).toNat) Try.underlying25 Try.sizeOf2 rfl rfl (by omega) (by omega) (by omega)) ?_
              refine AOps.gc rfl rfl rfl (s_load Try.isAgg2 rfl (row_cell (own_row rfl) (ints_get (by omega)))) ?_
              refine AOps.gp rfl rfl rfl (p_move rfl) ?_
              refine AOps.gp rfl rfl rfl (p_neq rfl rfl) ?_
              refine AOps.gp rfl rfl rfl (p_pickF rfl rfl) ?_
              refine AOps.gp rfl rfl rfl (p_pickT rfl rfl) ?_
              refine AOps.p rfl (p_pickF rfl rfl) ?_
              refine AOps.nil ?_
              exact ⟨rfl, Sub.cons' rfl rfl (Sub.cons' rfl rfl (Sub.cons' rfl rfl (Sub.cons' rfl rfl (Sub.cons' rfl rfl (Sub.cons' rfl rfl (Sub.cons' rfl rfl (Sub.cons' rfl (bool_eq (by simp only [c3, c7, c8, Bool.true_and, Bool.false_and, Bool.and_true, Bool.and_false, Bool.true_or, Bool.false_or, Bool.or_true, Bool.or_false, Bool.not_true, Bool.not_false, cond_true, cond_false])) (Sub.nil _))))))))⟩
          · have d7 := c7
            try simp only [inB, Bool.and_eq_true, Bool.or_eq_true, Bool.and_eq_false_iff, Bool.or_eq_false_iff, Bool.not_eq_true', Bool.not_eq_false', decide_eq_true_eq, decide_eq_false_iff_not, Int.not_le, Int.not_lt] at d7
            refine AOps.gn rfl rfl rfl ?_
            refine AOps.gn rfl rfl rfl ?_
            refine AOps.gn rfl rfl rfl ?_
            refine AOps.gn rfl rfl rfl ?_
            refine AOps.gn rfl rfl rfl ?_
            refine AOps.gn rfl rfl rfl ?_
            refine AOps.gn rfl rfl rfl ?_
            refine AOps.gn rfl rfl rfl ?_
            refine AOps.gu rfl rfl rfl ?_
            refine AOps.gu rfl rfl rfl ?_
            refine AOps.gu rfl rfl rfl ?_
            refine AOps.gu rfl rfl rfl ?_
            refine AOps.gu rfl rfl rfl ?_
            refine AOps.gu rfl rfl rfl ?_
            refine AOps.gu rfl rfl rfl ?_
            refine AOps.gn rfl rfl rfl ?_
            refine AOps.gp rfl rfl rfl (p_pickF rfl rfl) ?_
            refine AOps.p rfl (p_pickF rfl rfl) ?_
            refine AOps.nil ?_
            exact ⟨rfl, Sub.cons' rfl rfl (Sub.cons' rfl rfl (Sub.cons' rfl rfl (Sub.cons' rfl rfl (Sub.cons' rfl rfl (Sub.cons' rfl rfl (Sub.cons' rfl rfl (Sub.cons' rfl (bool_eq (by simp only [c3, c7, Bool.true_and, Bool.false_and, Bool.and_true, Bool.and_false, Bool.true_or, Bool.false_or, Bool.or_true, Bool.or_false, Bool.not_true, Bool.not_false, cond_true, cond_false])) (Sub.nil _))))))))⟩
      · rintro t' _ ⟨rfl, hsub⟩
        refine AWp.sub hsub ?_
        refine AWp.cond rfl (fun c9 => ?_) (fun c9 => ?_)
        · have d9 := c9
          try simp only [inB, Bool.and_eq_true, Bool.or_eq_true, Bool.and_eq_false_iff, Bool.or_eq_false_iff, Bool.not_eq_true', Bool.not_eq_false', decide_eq_true_eq, decide_eq_false_iff_not, Int.not_le, Int.not_lt] at d9
          refine AWp.seq ?_
          refine AWp.region ?_
          refine AOps.p rfl (p_assign rfl) ?_
          refine AOps.nil ?_
          refine AWp.ret ?_
          refine ends (.inr rfl) (res1 rfl (rv_tmp rfl)) ?_ (Fin.dropOwn (flatB_ok rfl))
          -- return 2: .bool false
          exact bool_eq (isRnd_at (k := k) (by omega) (by rw [rnd_E, c9]; rfl)).symm
        · have d9 := c9
          try simp only [inB, Bool.and_eq_true, Bool.or_eq_true, Bool.and_eq_false_iff, Bool.or_eq_false_iff, Bool.not_eq_true', Bool.not_eq_false', decide_eq_true_eq, decide_eq_false_iff_not, Int.not_le, Int.not_lt] at d9
          refine AWp.skip ?_
          refine AWp.region ?_
          refine AOps.p rfl (p_move rfl) ?_
          refine AOps.p rfl (p_add rfl rfl (wr64 (by omega) (by omega))) ?_
          refine AOps.p rfl (p_assign rfl) ?_
          refine AOps.nil ?_
          exact ⟨k + 1, ⟨by omega, rnd_step hI (by rw [rnd_E, c9]; rfl)⟩, by omega, Sub.cons' rfl rfl (Sub.cons' rfl rfl (Sub.cons' rfl rfl (Sub.cons' rfl rfl (Sub.cons' rfl (by first | rfl | (exact int_eq (by omega))) (Sub.cons' rfl rfl (Sub.nil _)))))), rfl⟩
    · have d2 := c2
      try simp only [inB, Bool.and_eq_true, Bool.or_eq_true, Bool.and_eq_false_iff, Bool.or_eq_false_iff, Bool.not_eq_true', Bool.not_eq_false', decide_eq_true_eq, decide_eq_false_iff_not, Int.not_le, Int.not_lt] at d2
      refine AWp.exit ?_
      refine AWp.seq ?_
      refine AWp.region ?_
      refine AOps.p rfl (p_assign rfl) ?_
      refine AOps.nil ?_
      refine AWp.ret ?_
      refine ends (.inr rfl) (res1 rfl (rv_tmp rfl)) ?_ (Fin.dropOwn (flatB_ok rfl))
      -- return 3: .bool true
      exact bool_eq (isRnd_all (k := k) (by simpa using c1) (by omega) hI).symm

theorem IsRound_ok (H : AHeap) (n : Int) (r : List Int) (hr : r.length = 14) : ACall Try.prog 11 ([.int .i64 (n), .agg (ints r).toArray]) H (.bool (isRnd n r)) H := by
  refine ACall.body (N := 42) [(0, .int .i64 (n)), (1, .agg (ints r).toArray)] Try.func11 rfl rfl rfl rfl ?_
  refine AWp.seq ?_
  refine AWp.region ?_
  refine AOps.c rfl (s_box (i := H.length + 0) (cs := ints r) rfl rfl rfl rfl) ?_
  refine AOps.p rfl (p_assign rfl) ?_
  refine AOps.nil ?_
  refine AWp.seq ?_
  refine AWp.seq ?_
  refine AWp.region ?_
  refine AOps.p rfl (p_move rfl) ?_
  refine AOps.c rfl (o_call (vs := [.int .i64 (n), .int .i64 (2), .int .i64 (14)]) rfl Try.call30 (between_ok _ _ _ _)) ?_
  refine AOps.p rfl (p_not rfl) ?_
  refine AOps.nil ?_
  refine AWp.cond rfl (fun c1 => ?_) (fun c1 => ?_)
  · have d1 := c1
    try simp only [inB, Bool.and_eq_true, Bool.or_eq_true, Bool.and_eq_false_iff, Bool.or_eq_false_iff, Bool.not_eq_true', Bool.not_eq_false', decide_eq_true_eq, decide_eq_false_iff_not, Int.not_le, Int.not_lt] at d1
    refine AWp.seq ?_
    refine AWp.region ?_
    refine AOps.p rfl (p_assign rfl) ?_
    refine AOps.nil ?_
    refine AWp.ret ?_
    refine ends (.inr rfl) (res1 rfl (rv_tmp rfl)) ?_ (Fin.dropOwn (flatB_ok rfl))
    -- return 1: .bool false
    exact bool_eq (isRnd_n (by simpa using c1)).symm
  · have d1 := c1
    try simp only [inB, Bool.and_eq_true, Bool.or_eq_true, Bool.and_eq_false_iff, Bool.or_eq_false_iff, Bool.not_eq_true', Bool.not_eq_false', decide_eq_true_eq, decide_eq_false_iff_not, Int.not_le, Int.not_lt] at d1
    have hn := inB_of (by simpa using c1)
    have hn1 := hn.1; have hn2 := hn.2
    refine AWp.skip ?_
    refine AWp.seq ?_
    refine AWp.seq ?_
    refine AWp.region ?_
    refine AOps.c rfl (s_loadN (vs := ints r) Try.isAgg25 Try.sizeOf25 rfl (by rw [ints_length]; first | rfl | omega | (simp only [List.length_set, List.length_replicate]; omega)) (row_cells (own_row rfl))) ?_
    refine AOps.p rfl (p_move rfl) ?_
    refine AOps.nil ?_
    refine AWp.block ?_
    refine AWp.round (α := Nat) (fun k => [(0, .int .i64 (n)), (1, .agg (ints r).toArray), (3, .pointer (some ⟨H.length + 0, 0, none⟩)), (4, .bool false), (9, .bool (!(inB n 2 14))), (10, .agg (ints r).toArray), (11, .int .i64 (((k : Nat) : Int)))]) (fun k => H ++ [AObj.row false (ints r)]) (fun k => k ≤ 14 ∧ ∀ j, j < k → rndAt n r j = true) (fun k => 14 - k) 0 ⟨by omega, fun j h => absurd h (Nat.not_lt_zero j)⟩ (Sub.cons' rfl rfl (Sub.cons' rfl rfl (Sub.cons' rfl rfl (Sub.cons' rfl rfl (Sub.cons' rfl rfl (Sub.cons' rfl rfl (Sub.cons' rfl rfl (Sub.nil _)))))))) rfl ?_
    intro k hInv0
    obtain ⟨hk, hI⟩ := hInv0
    refine AWp.sub (t' := [(0, .int .i64 (n)), (1, .agg (ints r).toArray), (3, .pointer (some ⟨H.length + 0, 0, none⟩)), (4, .bool false), (9, .bool (!(inB n 2 14))), (10, .agg (ints r).toArray), (11, .int .i64 (((k : Nat) : Int)))]) (Sub.refl _) ?_
    refine AWp.heap (H' := H ++ [AObj.row false (ints r)]) rfl ?_
    refine AWp.seq ?_
    refine AWp.region ?_
    refine AOps.p rfl (p_lss rfl rfl) ?_
    refine AOps.nil ?_
    refine AWp.seq ?_
    refine AWp.cond rfl (fun c2 => ?_) (fun c2 => ?_)
    · have d2 := c2
      try simp only [inB, Bool.and_eq_true, Bool.or_eq_true, Bool.and_eq_false_iff, Bool.or_eq_false_iff, Bool.not_eq_true', Bool.not_eq_false', decide_eq_true_eq, decide_eq_false_iff_not, Int.not_le, Int.not_lt] at d2
      refine AWp.skip ?_
      refine AWp.seq ?_
      refine AWp.block ?_
      refine AWp.seq ?_
      refine AWp.region ?_
      refine AOps.p rfl (p_move rfl) ?_
      refine AOps.p rfl (s_indexA (q := k) Try.underlying25 Try.sizeOf2 Try.isAgg2 rfl rfl (by omega) (by omega) (by omega) (ints_get (by omega))) ?_
      refine AOps.p rfl (p_assign rfl) ?_
      refine AOps.p rfl (p_assign rfl) ?_
      refine AOps.nil ?_
      refine AWp.cut (fun t' H' => H ++ [AObj.row false (ints r)] = H' ∧ Sub [(0, .int .i64 (n)), (1, .agg (ints r).toArray), (3, .pointer (some ⟨H.length + 0, 0, none⟩)), (4, .bool false), (5, .int .i64 (((k : Nat) : Int))), (6, .int .i64 (rd r k)), (9, .bool (!(inB n 2 14))), (10, .agg (ints r).toArray), (11, .int .i64 (((k : Nat) : Int))), (12, .bool (decide (((k : Nat) : Int) < 14))), (40, .bool (((decide (n ≤ ((k : Nat) : Int))) && (!decide (rd r k = 0))) || ((decide (((k : Nat) : Int) < n)) && ((!(inB (rd r k) 0 (n - 1))) || (!decide (rd r ((rd r k).toNat) = ((k : Nat) : Int)))))))] t') ?_ ?_
      · refine AWp.region ?_
        refine AOps.p rfl (p_move rfl) ?_
        refine AOps.p rfl (p_move rfl) ?_
        refine AOps.p rfl (p_geq rfl rfl) ?_
        refine AOps.p rfl (p_move rfl) ?_
        refine AOps.cases (d := 18) rfl (fun c3 => ?_) (fun c3 => ?_)
        · have d3 := c3
          try simp only [inB, Bool.and_eq_true, Bool.or_eq_true, Bool.and_eq_false_iff, Bool.or_eq_false_iff, Bool.not_eq_true', Bool.not_eq_false', decide_eq_true_eq, decide_eq_false_iff_not, Int.not_le, Int.not_lt] at d3
          refine AOps.gp rfl rfl rfl (p_move rfl) ?_
          refine AOps.gp rfl rfl rfl (p_neq rfl rfl) ?_
          refine AOps.p rfl (p_pickT rfl rfl) ?_
          refine AOps.p rfl (p_move rfl) ?_
          refine AOps.cases (d := 22) rfl (fun c4 => ?_) (fun c4 => ?_)
          · have d4 := c4
            try simp only [inB, Bool.and_eq_true, Bool.or_eq_true, Bool.and_eq_false_iff, Bool.or_eq_false_iff, Bool.not_eq_true', Bool.not_eq_false', decide_eq_true_eq, decide_eq_false_iff_not, Int.not_le, Int.not_lt] at d4
            refine AOps.gn rfl rfl rfl ?_
            refine AOps.gn rfl rfl rfl ?_
            refine AOps.gn rfl rfl rfl ?_
            refine AOps.gn rfl rfl rfl ?_
            refine AOps.gu rfl rfl rfl ?_
            refine AOps.gu rfl rfl rfl ?_
            refine AOps.gu rfl rfl rfl ?_
            refine AOps.gu rfl rfl rfl ?_
            refine AOps.gu rfl rfl rfl ?_
            refine AOps.gu rfl rfl rfl ?_
            refine AOps.gu rfl rfl rfl ?_
            refine AOps.gu rfl rfl rfl ?_
            refine AOps.gu rfl rfl rfl ?_
            refine AOps.gu rfl rfl rfl ?_
            refine AOps.gu rfl rfl rfl ?_
            refine AOps.gu rfl rfl rfl ?_
            refine AOps.gn rfl rfl rfl ?_
            refine AOps.p rfl (p_pickT rfl rfl) ?_
            refine AOps.nil ?_
            exact ⟨rfl, Sub.cons' rfl rfl (Sub.cons' rfl rfl (Sub.cons' rfl rfl (Sub.cons' rfl rfl (Sub.cons' rfl rfl (Sub.cons' rfl rfl (Sub.cons' rfl rfl (Sub.cons' rfl rfl (Sub.cons' rfl rfl (Sub.cons' rfl rfl (Sub.cons' rfl (bool_eq (by simp only [c3, c4, Bool.true_and, Bool.false_and, Bool.and_true, Bool.and_false, Bool.true_or, Bool.false_or, Bool.or_true, Bool.or_false, Bool.not_true, Bool.not_false, cond_true, cond_false])) (Sub.nil _)))))))))))⟩
          · have d4 := c4
            try simp only [inB, Bool.and_eq_true, Bool.or_eq_true, Bool.and_eq_false_iff, Bool.or_eq_false_iff, Bool.not_eq_true', Bool.not_eq_false', decide_eq_true_eq, decide_eq_false_iff_not, Int.not_le, Int.not_lt] at d4
            refine AOps.gp rfl rfl rfl (p_move rfl) ?_
            refine AOps.gp rfl rfl rfl (p_move rfl) ?_
            refine AOps.gp rfl rfl rfl (p_lss rfl rfl) ?_
            refine AOps.gp rfl rfl rfl (p_move rfl) ?_
            refine AOps.cases (d := 26) rfl (fun c5 => ?_) (fun c5 => ?_)
            · have d5 := c5
              try simp only [inB, Bool.and_eq_true, Bool.or_eq_true, Bool.and_eq_false_iff, Bool.or_eq_false_iff, Bool.not_eq_true', Bool.not_eq_false', decide_eq_true_eq, decide_eq_false_iff_not, Int.not_le, Int.not_lt] at d5
              refine AOps.gp rfl rfl rfl (p_move rfl) ?_
              refine AOps.gp rfl rfl rfl (p_move rfl) ?_
              refine AOps.gp rfl rfl rfl (p_sub rfl rfl (wr64 (by omega) (by omega))) ?_
              refine AOps.gc rfl rfl rfl (o_call (vs := [.int .i64 (rd r k), .int .i64 (0), .int .i64 (n - 1)]) rfl Try.call30 (between_ok _ _ _ _)) ?_
              refine AOps.gp rfl rfl rfl (p_not rfl) ?_
              refine AOps.gp rfl rfl rfl (p_move rfl) ?_
              refine AOps.cases (d := 32) rfl (fun c6 => ?_) (fun c6 => ?_)
              · have d6 := c6
                try simp only [inB, Bool.and_eq_true, Bool.or_eq_true, Bool.and_eq_false_iff, Bool.or_eq_false_iff, Bool.not_eq_true', Bool.not_eq_false', decide_eq_true_eq, decide_eq_false_iff_not, Int.not_le, Int.not_lt] at d6
                refine AOps.gn rfl rfl rfl ?_
                refine AOps.gn rfl rfl rfl ?_
                refine AOps.gn rfl rfl rfl ?_
                refine AOps.gn rfl rfl rfl ?_
                refine AOps.gn rfl rfl rfl ?_
                refine AOps.gp rfl rfl rfl (p_pickT rfl rfl) ?_
                refine AOps.gp rfl rfl rfl (p_pickT rfl rfl) ?_
                refine AOps.p rfl (p_pickF rfl rfl) ?_
                refine AOps.nil ?_
                exact ⟨rfl, Sub.cons' rfl rfl (Sub.cons' rfl rfl (Sub.cons' rfl rfl (Sub.cons' rfl rfl (Sub.cons' rfl rfl (Sub.cons' rfl rfl (Sub.cons' rfl rfl (Sub.cons' rfl rfl (Sub.cons' rfl rfl (Sub.cons' rfl rfl (Sub.cons' rfl (bool_eq (by simp only [c3, c4, c5, c6, Bool.true_and, Bool.false_and, Bool.and_true, Bool.and_false, Bool.true_or, Bool.false_or, Bool.or_true, Bool.or_false, Bool.not_true, Bool.not_false, cond_true, cond_false])) (Sub.nil _)))))))))))⟩
              · have d6 := c6
                try simp only [inB, Bool.and_eq_true, Bool.or_eq_true, Bool.and_eq_false_iff, Bool.or_eq_false_iff, Bool.not_eq_true', Bool.not_eq_false', decide_eq_true_eq, decide_eq_false_iff_not, Int.not_le, Int.not_lt] at d6
                refine AOps.gp rfl rfl rfl (p_move rfl) ?_
                refine AOps.gp rfl rfl rfl (s_indexArr (q := (rd r k).toNat) Try.underlying25 Try.sizeOf2 rfl rfl (by omega) (by omega) (by omega)) ?_
                refine AOps.gc rfl rfl rfl (s_load Try.isAgg2 rfl (row_cell (own_row rfl) (ints_get (by omega)))) ?_
                refine AOps.gp rfl rfl rfl (p_move rfl) ?_
                refine AOps.gp rfl rfl rfl (p_neq rfl rfl) ?_
                refine AOps.gp rfl rfl rfl (p_pickF rfl rfl) ?_
                refine AOps.gp rfl rfl rfl (p_pickT rfl rfl) ?_
                refine AOps.p rfl (p_pickF rfl rfl) ?_
                refine AOps.nil ?_
                exact ⟨rfl, Sub.cons' rfl rfl (Sub.cons' rfl rfl (Sub.cons' rfl rfl (Sub.cons' rfl rfl (Sub.cons' rfl rfl (Sub.cons' rfl rfl (Sub.cons' rfl rfl (Sub.cons' rfl rfl (Sub.cons' rfl rfl (Sub.cons' rfl rfl (Sub.cons' rfl (bool_eq (by simp only [c3, c4, c5, c6, Bool.true_and, Bool.false_and, Bool.and_true, Bool.and_false, Bool.true_or, Bool.false_or, Bool.or_true, Bool.or_false, Bool.not_true, Bool.not_false, cond_true, cond_false])) (Sub.nil _)))))))))))⟩
            · have d5 := c5
              try simp only [inB, Bool.and_eq_true, Bool.or_eq_true, Bool.and_eq_false_iff, Bool.or_eq_false_iff, Bool.not_eq_true', Bool.not_eq_false', decide_eq_true_eq, decide_eq_false_iff_not, Int.not_le, Int.not_lt] at d5
              refine AOps.gn rfl rfl rfl ?_
              refine AOps.gn rfl rfl rfl ?_
              refine AOps.gn rfl rfl rfl ?_
              refine AOps.gn rfl rfl rfl ?_
              refine AOps.gn rfl rfl rfl ?_
              refine AOps.gn rfl rfl rfl ?_
              refine AOps.gu rfl rfl rfl ?_
              refine AOps.gu rfl rfl rfl ?_
              refine AOps.gu rfl rfl rfl ?_
              refine AOps.gu rfl rfl rfl ?_
              refine AOps.gu rfl rfl rfl ?_
              refine AOps.gn rfl rfl rfl ?_
              refine AOps.gp rfl rfl rfl (p_pickF rfl rfl) ?_
              refine AOps.p rfl (p_pickF rfl rfl) ?_
              refine AOps.nil ?_
              exact ⟨rfl, Sub.cons' rfl rfl (Sub.cons' rfl rfl (Sub.cons' rfl rfl (Sub.cons' rfl rfl (Sub.cons' rfl rfl (Sub.cons' rfl rfl (Sub.cons' rfl rfl (Sub.cons' rfl rfl (Sub.cons' rfl rfl (Sub.cons' rfl rfl (Sub.cons' rfl (bool_eq (by simp only [c3, c4, c5, Bool.true_and, Bool.false_and, Bool.and_true, Bool.and_false, Bool.true_or, Bool.false_or, Bool.or_true, Bool.or_false, Bool.not_true, Bool.not_false, cond_true, cond_false])) (Sub.nil _)))))))))))⟩
        · have d3 := c3
          try simp only [inB, Bool.and_eq_true, Bool.or_eq_true, Bool.and_eq_false_iff, Bool.or_eq_false_iff, Bool.not_eq_true', Bool.not_eq_false', decide_eq_true_eq, decide_eq_false_iff_not, Int.not_le, Int.not_lt] at d3
          refine AOps.gn rfl rfl rfl ?_
          refine AOps.gn rfl rfl rfl ?_
          refine AOps.p rfl (p_pickF rfl rfl) ?_
          refine AOps.p rfl (p_move rfl) ?_
          refine AOps.gp rfl rfl rfl (p_move rfl) ?_
          refine AOps.gp rfl rfl rfl (p_move rfl) ?_
          refine AOps.gp rfl rfl rfl (p_lss rfl rfl) ?_
          refine AOps.gp rfl rfl rfl (p_move rfl) ?_
          refine AOps.cases (d := 26) rfl (fun c7 => ?_) (fun c7 => ?_)
          · have d7 := c7
            try simp only [inB, Bool.and_eq_true, Bool.or_eq_true, Bool.and_eq_false_iff, Bool.or_eq_false_iff, Bool.not_eq_true', Bool.not_eq_false', decide_eq_true_eq, decide_eq_false_iff_not, Int.not_le, Int.not_lt] at d7
            refine AOps.gp rfl rfl rfl (p_move rfl) ?_
            refine AOps.gp rfl rfl rfl (p_move rfl) ?_
            refine AOps.gp rfl rfl rfl (p_sub rfl rfl (wr64 (by omega) (by omega))) ?_
            refine AOps.gc rfl rfl rfl (o_call (vs := [.int .i64 (rd r k), .int .i64 (0), .int .i64 (n - 1)]) rfl Try.call30 (between_ok _ _ _ _)) ?_
            refine AOps.gp rfl rfl rfl (p_not rfl) ?_
            refine AOps.gp rfl rfl rfl (p_move rfl) ?_
            refine AOps.cases (d := 32) rfl (fun c8 => ?_) (fun c8 => ?_)
            · have d8 := c8
              try simp only [inB, Bool.and_eq_true, Bool.or_eq_true, Bool.and_eq_false_iff, Bool.or_eq_false_iff, Bool.not_eq_true', Bool.not_eq_false', decide_eq_true_eq, decide_eq_false_iff_not, Int.not_le, Int.not_lt] at d8
              refine AOps.gn rfl rfl rfl ?_
              refine AOps.gn rfl rfl rfl ?_
              refine AOps.gn rfl rfl rfl ?_
              refine AOps.gn rfl rfl rfl ?_
              refine AOps.gn rfl rfl rfl ?_
              refine AOps.gp rfl rfl rfl (p_pickT rfl rfl) ?_
              refine AOps.gp rfl rfl rfl (p_pickT rfl rfl) ?_
              refine AOps.p rfl (p_pickF rfl rfl) ?_
              refine AOps.nil ?_
              exact ⟨rfl, Sub.cons' rfl rfl (Sub.cons' rfl rfl (Sub.cons' rfl rfl (Sub.cons' rfl rfl (Sub.cons' rfl rfl (Sub.cons' rfl rfl (Sub.cons' rfl rfl (Sub.cons' rfl rfl (Sub.cons' rfl rfl (Sub.cons' rfl rfl (Sub.cons' rfl (bool_eq (by simp only [c3, c7, c8, Bool.true_and, Bool.false_and, Bool.and_true, Bool.and_false, Bool.true_or, Bool.false_or, Bool.or_true, Bool.or_false, Bool.not_true, Bool.not_false, cond_true, cond_false])) (Sub.nil _)))))))))))⟩
            · have d8 := c8
              try simp only [inB, Bool.and_eq_true, Bool.or_eq_true, Bool.and_eq_false_iff, Bool.or_eq_false_iff, Bool.not_eq_true', Bool.not_eq_false', decide_eq_true_eq, decide_eq_false_iff_not, Int.not_le, Int.not_lt] at d8
              refine AOps.gp rfl rfl rfl (p_move rfl) ?_
              refine AOps.gp rfl rfl rfl (s_indexArr (q := (rd r k).toNat) Try.underlying25 Try.sizeOf2 rfl rfl (by omega) (by omega) (by omega)) ?_
              refine AOps.gc rfl rfl rfl (s_load Try.isAgg2 rfl (row_cell (own_row rfl) (ints_get (by omega)))) ?_
              refine AOps.gp rfl rfl rfl (p_move rfl) ?_
              refine AOps.gp rfl rfl rfl (p_neq rfl rfl) ?_
              refine AOps.gp rfl rfl rfl (p_pickF rfl rfl) ?_
              refine AOps.gp rfl rfl rfl (p_pickT rfl rfl) ?_
              refine AOps.p rfl (p_pickF rfl rfl) ?_
              refine AOps.nil ?_
              exact ⟨rfl, Sub.cons' rfl rfl (Sub.cons' rfl rfl (Sub.cons' rfl rfl (Sub.cons' rfl rfl (Sub.cons' rfl rfl (Sub.cons' rfl rfl (Sub.cons' rfl rfl (Sub.cons' rfl rfl (Sub.cons' rfl rfl (Sub.cons' rfl rfl (Sub.cons' rfl (bool_eq (by simp only [c3, c7, c8, Bool.true_and, Bool.false_and, Bool.and_true, Bool.and_false, Bool.true_or, Bool.false_or, Bool.or_true, Bool.or_false, Bool.not_true, Bool.not_false, cond_true, cond_false])) (Sub.nil _)))))))))))⟩
          · have d7 := c7
            try simp only [inB, Bool.and_eq_true, Bool.or_eq_true, Bool.and_eq_false_iff, Bool.or_eq_false_iff, Bool.not_eq_true', Bool.not_eq_false', decide_eq_true_eq, decide_eq_false_iff_not, Int.not_le, Int.not_lt] at d7
            refine AOps.gn rfl rfl rfl ?_
            refine AOps.gn rfl rfl rfl ?_
            refine AOps.gn rfl rfl rfl ?_
            refine AOps.gn rfl rfl rfl ?_
            refine AOps.gn rfl rfl rfl ?_
            refine AOps.gn rfl rfl rfl ?_
            refine AOps.gu rfl rfl rfl ?_
            refine AOps.gu rfl rfl rfl ?_
            refine AOps.gu rfl rfl rfl ?_
            refine AOps.gu rfl rfl rfl ?_
            refine AOps.gu rfl rfl rfl ?_
            refine AOps.gn rfl rfl rfl ?_
            refine AOps.gp rfl rfl rfl (p_pickF rfl rfl) ?_
            refine AOps.p rfl (p_pickF rfl rfl) ?_
            refine AOps.nil ?_
            exact ⟨rfl, Sub.cons' rfl rfl (Sub.cons' rfl rfl (Sub.cons' rfl rfl (Sub.cons' rfl rfl (Sub.cons' rfl rfl (Sub.cons' rfl rfl (Sub.cons' rfl rfl (Sub.cons' rfl rfl (Sub.cons' rfl rfl (Sub.cons' rfl rfl (Sub.cons' rfl (bool_eq (by simp only [c3, c7, Bool.true_and, Bool.false_and, Bool.and_true, Bool.and_false, Bool.true_or, Bool.false_or, Bool.or_true, Bool.or_false, Bool.not_true, Bool.not_false, cond_true, cond_false])) (Sub.nil _)))))))))))⟩
      · rintro t' _ ⟨rfl, hsub⟩
        refine AWp.sub hsub ?_
        refine AWp.cond rfl (fun c9 => ?_) (fun c9 => ?_)
        · have d9 := c9
          try simp only [inB, Bool.and_eq_true, Bool.or_eq_true, Bool.and_eq_false_iff, Bool.or_eq_false_iff, Bool.not_eq_true', Bool.not_eq_false', decide_eq_true_eq, decide_eq_false_iff_not, Int.not_le, Int.not_lt] at d9
          refine AWp.seq ?_
          refine AWp.region ?_
          refine AOps.p rfl (p_assign rfl) ?_
          refine AOps.nil ?_
          refine AWp.ret ?_
          refine ends (.inr rfl) (res1 rfl (rv_tmp rfl)) ?_ (Fin.dropOwn (flatB_ok rfl))
          -- return 2: .bool false
          exact bool_eq (isRnd_at (k := k) (by omega) (by rw [rnd_E, c9]; rfl)).symm
        · have d9 := c9
          try simp only [inB, Bool.and_eq_true, Bool.or_eq_true, Bool.and_eq_false_iff, Bool.or_eq_false_iff, Bool.not_eq_true', Bool.not_eq_false', decide_eq_true_eq, decide_eq_false_iff_not, Int.not_le, Int.not_lt] at d9
          refine AWp.skip ?_
          refine AWp.region ?_
          refine AOps.p rfl (p_add rfl rfl (wr64 (by omega) (by omega))) ?_
          refine AOps.p rfl (p_move rfl) ?_
          refine AOps.nil ?_
          exact ⟨k + 1, ⟨by omega, rnd_step hI (by rw [rnd_E, c9]; rfl)⟩, by omega, Sub.cons' rfl rfl (Sub.cons' rfl rfl (Sub.cons' rfl rfl (Sub.cons' rfl rfl (Sub.cons' rfl rfl (Sub.cons' rfl rfl (Sub.cons' rfl (by first | rfl | (exact int_eq (by omega))) (Sub.nil _))))))), rfl⟩
    · have d2 := c2
      try simp only [inB, Bool.and_eq_true, Bool.or_eq_true, Bool.and_eq_false_iff, Bool.or_eq_false_iff, Bool.not_eq_true', Bool.not_eq_false', decide_eq_true_eq, decide_eq_false_iff_not, Int.not_le, Int.not_lt] at d2
      refine AWp.exit ?_
      refine AWp.seq ?_
      refine AWp.region ?_
      refine AOps.p rfl (p_assign rfl) ?_
      refine AOps.nil ?_
      refine AWp.ret ?_
      refine ends (.inr rfl) (res1 rfl (rv_tmp rfl)) ?_ (Fin.dropOwn (flatB_ok rfl))
      -- return 3: .bool true
      exact bool_eq (isRnd_all (k := k) (by simpa using c1) (by omega) hI).symm

theorem sIsRound_ok (H : AHeap) (n : Int) (r : List Int) (hr : r.length = 14) : ACall Try.prog 9 ([.int .i64 (n), .agg (ints r).toArray]) H (.bool (isRnd n r)) H := by
  refine ACall.body (N := 8) [(0, .int .i64 (n)), (1, .agg (ints r).toArray)] Try.func9 rfl rfl rfl rfl ?_
  refine AWp.seq ?_
  refine AWp.region ?_
  refine AOps.c rfl (s_box (i := H.length + 0) (cs := ints r) rfl rfl rfl rfl) ?_
  refine AOps.p rfl (p_assign rfl) ?_
  refine AOps.nil ?_
  refine AWp.seq ?_
  refine AWp.region ?_
  refine AOps.p rfl (p_move rfl) ?_
  refine AOps.c rfl (s_loadN (vs := ints r) Try.isAgg25 Try.sizeOf25 rfl (by rw [ints_length]; first | rfl | omega | (simp only [List.length_set, List.length_replicate]; omega)) (row_cells (own_row rfl))) ?_
  refine AOps.c rfl (o_call (vs := [.int .i64 (n), .agg (ints r).toArray]) rfl Try.call29 (l01Round_ok _ _ _ (by assumption))) ?_
  refine AOps.p rfl (p_assign rfl) ?_
  refine AOps.nil ?_
  refine AWp.ret ?_
  refine ends (.inr rfl) (res1 rfl (rv_tmp rfl)) ?_ (Fin.dropOwn (flatB_ok rfl))
  -- return 1: .bool (isRnd n r)
  exact rfl

theorem toRound_ok (H : AHeap) (r : List Int) (hr : r.length = 14) : ACall Try.prog 10 ([.agg (ints r).toArray]) H (.agg (ints r).toArray) H := by
  refine ACall.body (N := 15) [(0, .agg (ints r).toArray)] Try.func10 rfl rfl rfl rfl ?_
  refine AWp.seq ?_
  refine AWp.region ?_
  refine AOps.c rfl (s_box (i := H.length + 0) (cs := ints r) rfl rfl rfl rfl) ?_
  refine AOps.c rfl (s_alloc (i := H.length + 1) (cs := ints (List.replicate 14 0)) Try.zeroValue25 rfl rfl (by exact List.length_append) (by exact List.append_assoc _ _ _)) ?_
  refine AOps.nil ?_
  refine AWp.seq ?_
  refine AWp.region ?_
  refine AOps.c rfl (s_alloc (i := H.length + 2) (cs := ints (List.replicate 14 0)) Try.zeroValue25 rfl rfl (by exact List.length_append) (by exact List.append_assoc _ _ _)) ?_
  refine AOps.nil ?_
  refine AWp.seq ?_
  refine AWp.seq ?_
  refine AWp.region ?_
  refine AOps.p rfl (p_assign rfl) ?_
  refine AOps.nil ?_
  refine AWp.block ?_
  refine AWp.round (α := Nat) (fun i => [(0, .agg (ints r).toArray), (1, .pointer (some ⟨H.length + 0, 0, none⟩)), (2, .pointer (some ⟨H.length + 1, 0, none⟩)), (3, .pointer (some ⟨H.length + 2, 0, none⟩)), (4, .int .i64 (((i : Nat) : Int)))]) (fun i => H ++ [AObj.row false (ints r), AObj.row false (ints (List.replicate 14 0)), AObj.row false (ints (cpy r 14 i))]) (fun i => i ≤ 14) (fun i => 14 - i) 0 (by omega) (Sub.cons' rfl rfl (Sub.cons' rfl rfl (Sub.cons' rfl rfl (Sub.cons' rfl rfl (Sub.cons' rfl rfl (Sub.nil _)))))) (by rw [cpy_zero]; rfl) ?_
  intro i hInv0
  have hcl := cpy_length r 14 i
  refine AWp.sub (t' := [(0, .agg (ints r).toArray), (1, .pointer (some ⟨H.length + 0, 0, none⟩)), (2, .pointer (some ⟨H.length + 1, 0, none⟩)), (3, .pointer (some ⟨H.length + 2, 0, none⟩)), (4, .int .i64 (((i : Nat) : Int)))]) (Sub.refl _) ?_
  refine AWp.heap (H' := H ++ [AObj.row false (ints r), AObj.row false (ints (List.replicate 14 0)), AObj.row false (ints (cpy r 14 i))]) rfl ?_
  refine AWp.seq ?_
  refine AWp.seq ?_
  refine AWp.region ?_
  refine AOps.p rfl (p_move rfl) ?_
  refine AOps.p rfl (p_lss rfl rfl) ?_
  refine AOps.nil ?_
  refine AWp.cond rfl (fun c1 => ?_) (fun c1 => ?_)
  · have d1 := c1
    try simp only [inB, Bool.and_eq_true, Bool.or_eq_true, Bool.and_eq_false_iff, Bool.or_eq_false_iff, Bool.not_eq_true', Bool.not_eq_false', decide_eq_true_eq, decide_eq_false_iff_not, Int.not_le, Int.not_lt] at d1
    refine AWp.skip ?_
    refine AWp.seq ?_
    refine AWp.block ?_
    refine AWp.region ?_
    refine AOps.p rfl (p_move rfl) ?_
    refine AOps.p rfl (p_move rfl) ?_
    refine AOps.p rfl (s_indexArr (q := i) Try.underlying23 Try.sizeOf2 rfl rfl (by omega) (by omega) (by omega)) ?_
    refine AOps.c rfl (s_load Try.isAgg2 rfl (row_cell (own_row rfl) (ints_get (by omega)))) ?_
    refine AOps.p rfl (s_indexArr (q := i) Try.underlying25 Try.sizeOf2 rfl rfl (by omega) (by omega) (by omega)) ?_
    refine AOps.s (s_store (H' := H ++ [AObj.row false (ints r), AObj.row false (ints (List.replicate 14 0)), AObj.row false (ints ((cpy r 14 i).set i (rd r i)))]) Try.sizeOf2 rfl rfl rfl (own_row rfl) (by rw [ints_length]; first | omega | (simp only [List.length_set, List.length_replicate]; omega)) ((set_own _ _ _ _).trans (by rw [ints_set] <;> rfl))) ?_
    refine AOps.nil ?_
    refine AWp.region ?_
    refine AOps.p rfl (p_move rfl) ?_
    refine AOps.p rfl (p_add rfl rfl (wr64 (by omega) (by omega))) ?_
    refine AOps.p rfl (p_assign rfl) ?_
    refine AOps.nil ?_
    exact ⟨i + 1, by omega, by omega, Sub.cons' rfl rfl (Sub.cons' rfl rfl (Sub.cons' rfl rfl (Sub.cons' rfl rfl (Sub.cons' rfl (by first | rfl | (exact int_eq (by omega))) (Sub.nil _))))), by rw [cpy_set _ _ _ (by omega)]⟩
  · have d1 := c1
    try simp only [inB, Bool.and_eq_true, Bool.or_eq_true, Bool.and_eq_false_iff, Bool.or_eq_false_iff, Bool.not_eq_true', Bool.not_eq_false', decide_eq_true_eq, decide_eq_false_iff_not, Int.not_le, Int.not_lt] at d1
    refine AWp.exit ?_
    refine AWp.seq ?_
    refine AWp.region ?_
    refine AOps.c rfl (s_loadN (vs := ints (cpy r 14 i)) Try.isAgg25 Try.sizeOf25 rfl (by rw [ints_length]; first | rfl | omega | (simp only [List.length_set, List.length_replicate]; omega)) (row_cells (own_row rfl))) ?_
    refine AOps.s (s_storeAll (H' := H ++ [AObj.row false (ints r), AObj.row false (ints (cpy r 14 i)), AObj.row false (ints (cpy r 14 i))]) Try.sizeOf25 rfl rfl ints_one (own_row rfl) (by rw [ints_length]; omega) (by rw [ints_length]; first | rfl | omega) ((set_own _ _ _ _).trans rfl)) ?_
    refine AOps.nil ?_
    refine AWp.ret ?_
    refine ends (.inr rfl) (res1 rfl (rv_cell (vs := ints (cpy r 14 i)) rfl Try.isAgg25 Try.sizeOf25 (by rw [ints_length]; first | rfl | omega | (simp only [List.length_set, List.length_replicate]; omega)) (row_cells (own_row rfl)))) ?_ (Fin.dropOwn (flat_arr _))
    -- return 1: .agg (ints (cpy r 14 i)).toArray
    exact by rw [cpy_full _ _ _ (by omega) (by omega)]

theorem lawIsRound_ok (H : AHeap) (n : Int) (r : List Int) (hr : r.length = 14) : ACall Try.prog 4 ([.int .i64 (n), .agg (ints r).toArray]) H (.bool true) H := by
  refine ACall.body (N := 18) [(0, .int .i64 (n)), (1, .agg (ints r).toArray)] Try.func4 rfl rfl rfl rfl ?_
  refine AWp.seq ?_
  refine AWp.region ?_
  refine AOps.c rfl (s_box (i := H.length + 0) (cs := ints r) rfl rfl rfl rfl) ?_
  refine AOps.p rfl (p_assign rfl) ?_
  refine AOps.nil ?_
  refine AWp.seq ?_
  refine AWp.region ?_
  refine AOps.p rfl (p_move rfl) ?_
  refine AOps.c rfl (s_loadN (vs := ints r) Try.isAgg23 Try.sizeOf23 rfl (by rw [ints_length]; first | rfl | omega | (simp only [List.length_set, List.length_replicate]; omega)) (row_cells (own_row rfl))) ?_
  refine AOps.c rfl (o_call (vs := [.agg (ints r).toArray]) rfl Try.call10 (toRound_ok _ _ (by first | assumption | exact rw_len (by assumption) (by omega)))) ?_
  refine AOps.c rfl (o_call (vs := [.int .i64 (n), .agg (ints r).toArray]) rfl Try.call9 (sIsRound_ok _ _ _ (by assumption))) ?_
  refine AOps.p rfl (p_assign rfl) ?_
  refine AOps.nil ?_
  refine AWp.seq ?_
  refine AWp.region ?_
  refine AOps.p rfl (p_move rfl) ?_
  refine AOps.c rfl (s_loadN (vs := ints r) Try.isAgg23 Try.sizeOf23 rfl (by rw [ints_length]; first | rfl | omega | (simp only [List.length_set, List.length_replicate]; omega)) (row_cells (own_row rfl))) ?_
  refine AOps.c rfl (o_call (vs := [.agg (ints r).toArray]) rfl Try.call10 (toRound_ok _ _ (by first | assumption | exact rw_len (by assumption) (by omega)))) ?_
  refine AOps.c rfl (o_call (vs := [.int .i64 (n), .agg (ints r).toArray]) rfl Try.call11 (IsRound_ok _ _ _ (by assumption))) ?_
  refine AOps.p rfl (p_assign rfl) ?_
  refine AOps.nil ?_
  refine AWp.seq ?_
  refine AWp.seq ?_
  refine AWp.region ?_
  refine AOps.p rfl (p_move rfl) ?_
  refine AOps.p rfl (p_move rfl) ?_
  refine AOps.p rfl (p_bneq Try.underlying4 rfl rfl) ?_
  refine AOps.nil ?_
  refine AWp.cond rfl (fun c1 => ?_) (fun c1 => ?_)
  · have d1 := c1
    try simp only [inB, Bool.and_eq_true, Bool.or_eq_true, Bool.and_eq_false_iff, Bool.or_eq_false_iff, Bool.not_eq_true', Bool.not_eq_false', decide_eq_true_eq, decide_eq_false_iff_not, Int.not_le, Int.not_lt] at d1
    refine AWp.seq ?_
    refine AWp.region ?_
    refine AOps.p rfl (p_assign rfl) ?_
    refine AOps.nil ?_
    refine AWp.ret ?_
    refine ends (.inr rfl) (res1 rfl (rv_tmp rfl)) ?_ (Fin.dropOwn (flatB_ok rfl))
    -- return 1: .bool false
    exact absurd c1 (by simp)
  · have d1 := c1
    try simp only [inB, Bool.and_eq_true, Bool.or_eq_true, Bool.and_eq_false_iff, Bool.or_eq_false_iff, Bool.not_eq_true', Bool.not_eq_false', decide_eq_true_eq, decide_eq_false_iff_not, Int.not_le, Int.not_lt] at d1
    refine AWp.skip ?_
    refine AWp.seq ?_
    refine AWp.region ?_
    refine AOps.p rfl (p_assign rfl) ?_
    refine AOps.nil ?_
    refine AWp.ret ?_
    refine ends (.inr rfl) (res1 rfl (rv_tmp rfl)) ?_ (Fin.dropOwn (flatB_ok rfl))
    -- return 2: .bool true
    exact rfl

end Go.Proofs.Ytgageobfalmhpaa