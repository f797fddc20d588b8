import Derived.Test.YtgageobfalmhpaaP4
namespace Go.Proofs.Ytgageobfalmhpaa
open Go Go.RowKit Am
set_option linter.unusedVariables false
set_option linter.unusedSimpArgs false
theorem eqSS_ok (H : AHeap) (p₁ p₂ : Option Addr) (n₁ n₂ c₁ c₂ : Nat) (T₁ T₂ : Tab) (h₁ : TabIs H p₁ n₁ T₁) (h₂ : TabIs H p₂ n₂ T₂) (hb : n₁ ≤ 9223372036854775807) (hb₂ : n₂ ≤ 9223372036854775807) (hL₁ : ∀ x ∈ T₁, x.2.2.length ≤ 9223372036854775807) (hL₂ : ∀ x ∈ T₂, x.2.2.length ≤ 9223372036854775807) : ACall Try.prog 14 ([.slice p₁ (n₁) (c₁), .slice p₂ (n₂) (c₂)]) H (.bool (decide (Tab.rows T₁ = Tab.rows T₂))) H := by
  have hl₁ := h₁.1
  have hl₂ := h₂.1
  refine ACall.body (N := 27) [(0, .slice p₁ (n₁) (c₁)), (1, .slice p₂ (n₂) (c₂))] Try.func14 rfl rfl rfl rfl ?_
  refine AWp.seq ?_
  refine AWp.region ?_
  refine AOps.p rfl (p_assign rfl) ?_
  refine AOps.nil ?_
  refine AWp.seq ?_
  refine AWp.seq ?_
  refine AWp.region ?_
  refine AOps.p rfl (p_move rfl) ?_
  refine AOps.p rfl (p_len_slice rfl Try.underlying28) ?_
  refine AOps.p rfl (p_move rfl) ?_
  refine AOps.p rfl (p_len_slice rfl Try.underlying28) ?_
  refine AOps.p rfl (p_neq rfl rfl) ?_
  refine AOps.nil ?_
  refine AWp.cond rfl (fun c1 => ?_) (fun c1 => ?_)
  · have d1 := c1
    try simp only [inB, Bool.and_eq_true, Bool.or_eq_true, Bool.and_eq_false_iff, Bool.or_eq_false_iff, Bool.not_eq_true', Bool.not_eq_false', decide_eq_true_eq, decide_eq_false_iff_not, Int.not_le, Int.not_lt] at d1
    refine AWp.seq ?_
    refine AWp.region ?_
    refine AOps.p rfl (p_assign rfl) ?_
    refine AOps.nil ?_
    refine AWp.ret ?_
    refine ends (.inr rfl) (res1 rfl (rv_tmp rfl)) ?_ (Fin.refl _ _ _)
    -- return 1: .bool false
    exact bool_eq (decide_eq_false (fun h => by have := congrArg List.length h; rw [Tab.rows_len, Tab.rows_len] at this; omega)).symm
  · have d1 := c1
    try simp only [inB, Bool.and_eq_true, Bool.or_eq_true, Bool.and_eq_false_iff, Bool.or_eq_false_iff, Bool.not_eq_true', Bool.not_eq_false', decide_eq_true_eq, decide_eq_false_iff_not, Int.not_le, Int.not_lt] at d1
    refine AWp.skip ?_
    refine AWp.seq ?_
    refine AWp.seq ?_
    refine AWp.region ?_
    refine AOps.p rfl (p_assign rfl) ?_
    refine AOps.nil ?_
    refine AWp.block ?_
    refine AWp.round (α := Nat) (fun k => [(0, .slice p₁ (n₁) (c₁)), (1, .slice p₂ (n₂) (c₂)), (4, .bool false), (5, .int .i64 (((k : Nat) : Int))), (10, .bool (!decide (((n₁ : Nat) : Int) = ((n₂ : Nat) : Int))))]) (fun k => H) (fun k => k ≤ n₁ ∧ ∀ j, j < k → rw_ (Tab.rows T₁) j = rw_ (Tab.rows T₂) j) (fun k => n₁ - k) 0 ⟨by omega, fun j h => absurd h (Nat.not_lt_zero j)⟩ (Sub.cons' rfl rfl (Sub.cons' rfl rfl (Sub.cons' rfl rfl (Sub.cons' rfl rfl (Sub.cons' rfl rfl (Sub.nil _)))))) rfl ?_
    intro k hInv0
    obtain ⟨hk, hI⟩ := hInv0
    have hlen : n₁ = n₂ := by omega
    refine AWp.sub (t' := [(0, .slice p₁ (n₁) (c₁)), (1, .slice p₂ (n₂) (c₂)), (4, .bool false), (5, .int .i64 (((k : Nat) : Int))), (10, .bool (!decide (((n₁ : Nat) : Int) = ((n₂ : Nat) : Int))))]) (Sub.refl _) ?_
    refine AWp.heap (H' := H) rfl ?_
    refine AWp.seq ?_
    refine AWp.seq ?_
    refine AWp.region ?_
    refine AOps.p rfl (p_move rfl) ?_
    refine AOps.p rfl (p_move rfl) ?_
    refine AOps.p rfl (p_len_slice rfl Try.underlying28) ?_
    refine AOps.p rfl (p_lss rfl rfl) ?_
    refine AOps.nil ?_
    refine AWp.cond rfl (fun c2 => ?_) (fun c2 => ?_)
    · have d2 := c2
      try simp only [inB, Bool.and_eq_true, Bool.or_eq_true, Bool.and_eq_false_iff, Bool.or_eq_false_iff, Bool.not_eq_true', Bool.not_eq_false', decide_eq_true_eq, decide_eq_false_iff_not, Int.not_le, Int.not_lt] at d2
      obtain ⟨i₁, ro₁, hp₁, hg₁⟩ := h₁.some (by omega)
      obtain ⟨i₂, ro₂, hp₂, hg₂⟩ := h₂.some (by omega)
      obtain ⟨qo₁, hr₁⟩ := h₁.2.2 _ (trow_mem (j := k) (by omega))
      obtain ⟨qo₂, hr₂⟩ := h₂.2.2 _ (trow_mem (j := k) (by omega))
      have hL1 := hL₁ _ (trow_mem (j := k) (by omega))
      have hL2 := hL₂ _ (trow_mem (j := k) (by omega))
      have e1 := Tab.rows_rw (T := T₁) (j := k) (by omega)
      have e2 := Tab.rows_rw (T := T₂) (j := k) (by omega)
      refine AWp.skip ?_
      refine AWp.seq ?_
      refine AWp.block ?_
      refine AWp.cut (fun t' H' => H = H' ∧ Sub [(0, .slice p₁ (n₁) (c₁)), (1, .slice p₂ (n₂) (c₂)), (4, .bool false), (5, .int .i64 (((k : Nat) : Int))), (10, .bool (!decide (((n₁ : Nat) : Int) = ((n₂ : Nat) : Int)))), (14, .bool (decide (((k : Nat) : Int) < ((n₁ : Nat) : Int)))), (26, .bool (!(decide ((trow T₁ k).2.2 = (trow T₂ k).2.2))))] t') ?_ ?_
      · refine DTr.start mix ?_
        refine DTr.p rfl rfl (p_move rfl) ?_
        refine DTr.p rfl rfl (p_move rfl) ?_
        refine DTr.p rfl rfl (s_indexP (q := k) Try.underlying28 Try.sizeOf34 rfl hp₁ rfl (by omega) (by omega) (by omega)) ?_
        refine DTr.r rfl rfl (r_load rfl Try.isAgg34) (one_read (row_cell (hg₁) (Tab.cell (by omega))) (.slice _ _ _ _ (by have hb := (row_lt hr₁); first | omega | (simp only [List.length_append, List.length_cons, List.length_nil]; omega)))) ?_
        refine DTr.p rfl rfl (p_move rfl) ?_
        refine DTr.p rfl rfl (p_move rfl) ?_
        refine DTr.p rfl rfl (s_indexP (q := k) Try.underlying28 Try.sizeOf34 rfl hp₂ rfl (by omega) (by omega) (by omega)) ?_
        refine DTr.r rfl rfl (r_load rfl Try.isAgg34) (one_read (row_cell (hg₂) (Tab.cell (by omega))) (.slice _ _ _ _ (by have hb := (row_lt hr₂); first | omega | (simp only [List.length_append, List.length_cons, List.length_nil]; omega)))) ?_
        refine DTr.w rfl rfl (o_call (vs := [.slice (some ⟨(trow T₁ k).1, 0, none⟩) ((trow T₁ k).2.2.length) ((trow T₁ k).2.1), .slice (some ⟨(trow T₂ k).1, 0, none⟩) ((trow T₂ k).2.2.length) ((trow T₂ k).2.1)]) rfl Try.call21 (eqI_ok _ _ _ _ _ _ _ _ _ (SlIs.mk (hr₁) (by omega)) (SlIs.mk (hr₂) (by omega)) (by omega) (by omega))) (Nat.le_refl _) ?_
        refine DTr.p rfl rfl (p_not rfl) ?_
        exact DTr.nil ⟨by kernel_rfl, dyn_same rfl (by intro f hf; simp at hf; rcases hf with rfl | rfl | rfl | rfl | rfl | rfl | rfl | rfl | rfl | rfl <;> first | (intro h; cases h; done) | (intro _; rfl)), rfl, Sub.cons' rfl rfl (Sub.cons' rfl rfl (Sub.cons' rfl rfl (Sub.cons' rfl rfl (Sub.cons' rfl rfl (Sub.cons' rfl rfl (Sub.cons' rfl rfl (Sub.nil _)))))))⟩
      · rintro t' _ ⟨rfl, hsub⟩
        refine AWp.sub hsub ?_
        refine AWp.cond rfl (fun c3 => ?_) (fun c3 => ?_)
        · have d3 := c3
          try simp only [inB, Bool.and_eq_true, Bool.or_eq_true, Bool.and_eq_false_iff, Bool.or_eq_false_iff, Bool.not_eq_true', Bool.not_eq_false', decide_eq_true_eq, decide_eq_false_iff_not, Int.not_le, Int.not_lt] at d3
          refine AWp.seq ?_
          refine AWp.region ?_
          refine AOps.p rfl (p_assign rfl) ?_
          refine AOps.nil ?_
          refine AWp.ret ?_
          refine ends (.inr rfl) (res1 rfl (rv_tmp rfl)) ?_ (Fin.refl _ _ _)
          -- return 2: .bool false
          exact bool_eq (decide_eq_false (fun h => by rw [h, e2] at e1; rw [e1] at c3; simp at c3)).symm
        · have d3 := c3
          try simp only [inB, Bool.and_eq_true, Bool.or_eq_true, Bool.and_eq_false_iff, Bool.or_eq_false_iff, Bool.not_eq_true', Bool.not_eq_false', decide_eq_true_eq, decide_eq_false_iff_not, Int.not_le, Int.not_lt] at d3
          refine AWp.skip ?_
          refine AWp.region ?_
          refine AOps.p rfl (p_move rfl) ?_
          refine AOps.p rfl (p_add rfl rfl (wr64 (by omega) (by omega))) ?_
          refine AOps.p rfl (p_assign rfl) ?_
          refine AOps.nil ?_
          exact ⟨k + 1, ⟨by omega, eq_stepR hI (by rw [e1, e2]; simpa using c3)⟩, by omega, Sub.cons' rfl rfl (Sub.cons' rfl rfl (Sub.cons' rfl rfl (Sub.cons' rfl (by first | rfl | (exact int_eq (by omega))) (Sub.cons' rfl rfl (Sub.nil _))))), rfl⟩
    · have d2 := c2
      try simp only [inB, Bool.and_eq_true, Bool.or_eq_true, Bool.and_eq_false_iff, Bool.or_eq_false_iff, Bool.not_eq_true', Bool.not_eq_false', decide_eq_true_eq, decide_eq_false_iff_not, Int.not_le, Int.not_lt] at d2
      refine AWp.exit ?_
      refine AWp.seq ?_
      refine AWp.region ?_
      refine AOps.p rfl (p_assign rfl) ?_
      refine AOps.nil ?_
      refine AWp.ret ?_
      refine ends (.inr rfl) (res1 rfl (rv_tmp rfl)) ?_ (Fin.refl _ _ _)
      -- return 3: .bool true
      exact bool_eq (decide_eq_true (rows_eq (by rw [Tab.rows_len, Tab.rows_len]; omega) (fun j hj => hI j (by rw [Tab.rows_len] at hj; omega)))).symm

theorem eqSS_same (H : AHeap) (p₁ p₂ : Option Addr) (n₁ n₂ c₁ c₂ : Nat) (T₁ T₂ : Tab) (h₁ : TabIs H p₁ n₁ T₁) (h₂ : TabIs H p₂ n₂ T₂) (hb : n₁ ≤ 9223372036854775807) (hb₂ : n₂ ≤ 9223372036854775807) (hL₁ : ∀ x ∈ T₁, x.2.2.length ≤ 9223372036854775807) (hL₂ : ∀ x ∈ T₂, x.2.2.length ≤ 9223372036854775807) (he : Tab.rows T₁ = Tab.rows T₂) : ACall Try.prog 14 [.slice p₁ n₁ c₁, .slice p₂ n₂ c₂] H (.bool true) H := by
  have := eqSS_ok H p₁ p₂ n₁ n₂ c₁ c₂ T₁ T₂ h₁ h₂ hb hb₂ hL₁ hL₂
  rwa [decide_eq_true he] at this

theorem markSS_ok (H : AHeap) (b i n c : Nat) (T : Tab) (k : Int) (hn : T.length = n) (hk0 : 0 ≤ k) (hkb : k + ((tot T : Nat) : Int) ≤ 4611686018427387904) (hg : hget H i = .row false (Tab.cells T)) (hT : TabW b H T) (hi : ∀ x ∈ T, x.1 ≠ i) (hb : n ≤ 4611686018427387904) {H' : AHeap} (hH : setT H (markT k T) = H') : ACall Try.prog 15 ([.slice (some ⟨i, 0, none⟩) (n) (c), .int .i64 (k)]) H (.int .i64 (k + ((tot T : Nat) : Int))) H' := by
  subst hH
  refine ACall.body (N := 19) [(0, .slice (some ⟨i, 0, none⟩) (n) (c)), (1, .int .i64 (k))] Try.func15 rfl rfl rfl rfl ?_
  refine AWp.seq ?_
  refine AWp.region ?_
  refine AOps.p rfl (p_assign rfl) ?_
  refine AOps.nil ?_
  refine AWp.seq ?_
  refine AWp.seq ?_
  refine AWp.region ?_
  refine AOps.p rfl (p_assign rfl) ?_
  refine AOps.nil ?_
  refine AWp.block ?_
  refine AWp.round (α := Nat) (fun j => [(0, .slice (some ⟨i, 0, none⟩) (n) (c)), (1, .int .i64 (k + ((tot (T.take j) : Nat) : Int))), (4, .int .i64 (0)), (5, .int .i64 (((j : Nat) : Int)))]) (fun j => (setT H (markT k (T.take j)))) (fun j => j ≤ n) (fun j => n - j) 0 (Nat.zero_le _) (Sub.cons' rfl rfl (Sub.cons' rfl (int_eq (by simp [tot])) (Sub.cons' rfl rfl (Sub.cons' rfl rfl (Sub.nil _))))) rfl ?_
  intro j hInv0
  refine AWp.sub (t' := [(0, .slice (some ⟨i, 0, none⟩) (n) (c)), (1, .int .i64 (k + ((tot (T.take j) : Nat) : Int))), (4, .int .i64 (0)), (5, .int .i64 (((j : Nat) : Int)))]) (Sub.refl _) ?_
  refine AWp.heap (H' := (setT H (markT k (T.take j)))) rfl ?_
  refine AWp.seq ?_
  refine AWp.seq ?_
  refine AWp.region ?_
  refine AOps.p rfl (p_move rfl) ?_
  refine AOps.p rfl (p_move rfl) ?_
  refine AOps.p rfl (p_len_slice rfl Try.underlying28) ?_
  refine AOps.p rfl (p_lss rfl rfl) ?_
  refine AOps.nil ?_
  refine AWp.cond rfl (fun c1 => ?_) (fun c1 => ?_)
  · have d1 := c1
    try simp only [inB, Bool.and_eq_true, Bool.or_eq_true, Bool.and_eq_false_iff, Bool.or_eq_false_iff, Bool.not_eq_true', Bool.not_eq_false', decide_eq_true_eq, decide_eq_false_iff_not, Int.not_le, Int.not_lt] at d1
    have ht := tot_row (T := T) (j := j) (by omega)
    have hts := tot_succ (T := T) (j := j) (by omega)
    refine AWp.skip ?_
    refine AWp.seq ?_
    refine AWp.block ?_
    refine AWp.region ?_
    refine AOps.p rfl (p_move rfl) ?_
    refine AOps.p rfl (p_move rfl) ?_
    refine AOps.p rfl (s_indexSl (q := j) Try.underlying28 Try.sizeOf34 rfl rfl (by omega) (by omega) (by omega)) ?_
    refine AOps.c rfl (s_load Try.isAgg34 rfl (row_cell (((setT_out _ _ _ (mark_ne hi)).trans hg)) (Tab.cell (by omega)))) ?_
    refine AOps.p rfl (p_move rfl) ?_
    refine AOps.c rfl (o_call (vs := [.slice (some ⟨(trow T j).1, 0, none⟩) ((trow T j).2.2.length) ((trow T j).2.1), .int .i64 (k + ((tot (T.take j) : Nat) : Int))]) rfl Try.call22 (markI_ok _ _ _ _ _ _ rfl (by omega) (by omega) (((setT_out _ _ _ (trow_take_ne hT.1 (by omega) k)).trans (hT.2 _ (trow_mem (by omega))).2)) (mark_step (by omega) H))) ?_
    refine AOps.p rfl (p_assign rfl) ?_
    refine AOps.nil ?_
    refine AWp.region ?_
    refine AOps.p rfl (p_move rfl) ?_
    refine AOps.p rfl (p_add rfl rfl (wr64 (by omega) (by omega))) ?_
    refine AOps.p rfl (p_assign rfl) ?_
    refine AOps.nil ?_
    exact ⟨j + 1, by omega, by omega, Sub.cons' rfl rfl (Sub.cons' rfl (by first | rfl | (exact int_eq (by omega))) (Sub.cons' rfl rfl (Sub.cons' rfl (by first | rfl | (exact int_eq (by omega))) (Sub.nil _)))), rfl⟩
  · have d1 := c1
    try simp only [inB, Bool.and_eq_true, Bool.or_eq_true, Bool.and_eq_false_iff, Bool.or_eq_false_iff, Bool.not_eq_true', Bool.not_eq_false', decide_eq_true_eq, decide_eq_false_iff_not, Int.not_le, Int.not_lt] at d1
    refine AWp.exit ?_
    refine AWp.seq ?_
    refine AWp.region ?_
    refine AOps.p rfl (p_move rfl) ?_
    refine AOps.p rfl (p_assign rfl) ?_
    refine AOps.nil ?_
    refine AWp.ret ?_
    refine ends2 (.inr rfl) (res1 rfl (rv_tmp rfl)) ?_
    -- return 1: .int .i64 (k + ((tot (T.take j) : Nat) : Int))
    have e : T.take j = T := List.take_of_length_le (by omega)
    rw [e]
    exact Fin.refl _ _ _

theorem heldSS_ok (H : AHeap) (i n c : Nat) (ro : Bool) (T : Tab) (k : Int) (hn : T.length = n) (hk0 : 0 ≤ k) (hkb : k + ((tot T : Nat) : Int) ≤ 4611686018427387904) (hg : hget H i = .row ro (Tab.cells T)) (hT : TabR H (markT k T)) (hb : n ≤ 4611686018427387904) : ACall Try.prog 16 ([.slice (some ⟨i, 0, none⟩) (n) (c), .int .i64 (k)]) H (.int .i64 (k + ((tot T : Nat) : Int))) H := by
  refine ACall.body (N := 21) [(0, .slice (some ⟨i, 0, none⟩) (n) (c)), (1, .int .i64 (k))] Try.func16 rfl rfl rfl rfl ?_
  refine AWp.seq ?_
  refine AWp.region ?_
  refine AOps.p rfl (p_assign rfl) ?_
  refine AOps.nil ?_
  refine AWp.seq ?_
  refine AWp.seq ?_
  refine AWp.region ?_
  refine AOps.p rfl (p_assign rfl) ?_
  refine AOps.nil ?_
  refine AWp.block ?_
  refine AWp.round (α := Nat) (fun j => [(0, .slice (some ⟨i, 0, none⟩) (n) (c)), (1, .int .i64 (k + ((tot (T.take j) : Nat) : Int))), (4, .int .i64 (0)), (5, .int .i64 (((j : Nat) : Int)))]) (fun j => H) (fun j => j ≤ n) (fun j => n - j) 0 (Nat.zero_le _) (Sub.cons' rfl rfl (Sub.cons' rfl (int_eq (by simp [tot])) (Sub.cons' rfl rfl (Sub.cons' rfl rfl (Sub.nil _))))) rfl ?_
  intro j hInv0
  refine AWp.sub (t' := [(0, .slice (some ⟨i, 0, none⟩) (n) (c)), (1, .int .i64 (k + ((tot (T.take j) : Nat) : Int))), (4, .int .i64 (0)), (5, .int .i64 (((j : Nat) : Int)))]) (Sub.refl _) ?_
  refine AWp.heap (H' := H) rfl ?_
  refine AWp.seq ?_
  refine AWp.seq ?_
  refine AWp.region ?_
  refine AOps.p rfl (p_move rfl) ?_
  refine AOps.p rfl (p_move rfl) ?_
  refine AOps.p rfl (p_len_slice rfl Try.underlying28) ?_
  refine AOps.p rfl (p_lss rfl rfl) ?_
  refine AOps.nil ?_
  refine AWp.cond rfl (fun c1 => ?_) (fun c1 => ?_)
  · have d1 := c1
    try simp only [inB, Bool.and_eq_true, Bool.or_eq_true, Bool.and_eq_false_iff, Bool.or_eq_false_iff, Bool.not_eq_true', Bool.not_eq_false', decide_eq_true_eq, decide_eq_false_iff_not, Int.not_le, Int.not_lt] at d1
    have ht := tot_row (T := T) (j := j) (by omega)
    have hts := tot_succ (T := T) (j := j) (by omega)
    obtain ⟨qo, hr⟩ := hT _ (trow_mem (T := markT k T) (j := j) (by rw [markT_len]; omega))
    rw [trow_markT (by omega)] at hr
    refine AWp.skip ?_
    refine AWp.seq ?_
    refine AWp.block ?_
    refine AWp.seq ?_
    refine AWp.region ?_
    refine AOps.p rfl (p_move rfl) ?_
    refine AOps.p rfl (p_move rfl) ?_
    refine AOps.p rfl (s_indexSl (q := j) Try.underlying28 Try.sizeOf34 rfl rfl (by omega) (by omega) (by omega)) ?_
    refine AOps.c rfl (s_load Try.isAgg34 rfl (row_cell (hg) (Tab.cell (by omega)))) ?_
    refine AOps.p rfl (p_move rfl) ?_
    refine AOps.c rfl (o_call (vs := [.slice (some ⟨(trow T j).1, 0, none⟩) ((trow T j).2.2.length) ((trow T j).2.1), .int .i64 (k + ((tot (T.take j) : Nat) : Int))]) rfl Try.call23 (heldI_ok _ _ _ _ _ _ (by omega) (by omega) (hr))) ?_
    refine AOps.p rfl (p_assign rfl) ?_
    refine AOps.nil ?_
    refine AWp.seq ?_
    refine AWp.region ?_
    refine AOps.p rfl (p_move rfl) ?_
    refine AOps.p rfl (p_lss rfl rfl) ?_
    refine AOps.nil ?_
    refine AWp.cond rfl (fun c2 => ?_) (fun c2 => ?_)
    · have d2 := c2
      try simp only [inB, Bool.and_eq_true, Bool.or_eq_true, Bool.and_eq_false_iff, Bool.or_eq_false_iff, Bool.not_eq_true', Bool.not_eq_false', decide_eq_true_eq, decide_eq_false_iff_not, Int.not_le, Int.not_lt] at d2
      exact absurd d2 (by omega)
    · have d2 := c2
      try simp only [inB, Bool.and_eq_true, Bool.or_eq_true, Bool.and_eq_false_iff, Bool.or_eq_false_iff, Bool.not_eq_true', Bool.not_eq_false', decide_eq_true_eq, decide_eq_false_iff_not, Int.not_le, Int.not_lt] at d2
      refine AWp.skip ?_
      refine AWp.region ?_
      refine AOps.p rfl (p_move rfl) ?_
      refine AOps.p rfl (p_add rfl rfl (wr64 (by omega) (by omega))) ?_
      refine AOps.p rfl (p_assign rfl) ?_
      refine AOps.nil ?_
      exact ⟨j + 1, by omega, by omega, Sub.cons' rfl rfl (Sub.cons' rfl (by first | rfl | (exact int_eq (by omega))) (Sub.cons' rfl rfl (Sub.cons' rfl (by first | rfl | (exact int_eq (by omega))) (Sub.nil _)))), rfl⟩
  · have d1 := c1
    try simp only [inB, Bool.and_eq_true, Bool.or_eq_true, Bool.and_eq_false_iff, Bool.or_eq_false_iff, Bool.not_eq_true', Bool.not_eq_false', decide_eq_true_eq, decide_eq_false_iff_not, Int.not_le, Int.not_lt] at d1
    refine AWp.exit ?_
    refine AWp.seq ?_
    refine AWp.region ?_
    refine AOps.p rfl (p_move rfl) ?_
    refine AOps.p rfl (p_assign rfl) ?_
    refine AOps.nil ?_
    refine AWp.ret ?_
    refine ends (.inr rfl) (res1 rfl (rv_tmp rfl)) ?_ (Fin.refl _ _ _)
    -- return 1: .int .i64 (k + ((tot (T.take j) : Nat) : Int))
    exact (by rw [List.take_of_length_le (by omega)])

end Go.Proofs.Ytgageobfalmhpaa