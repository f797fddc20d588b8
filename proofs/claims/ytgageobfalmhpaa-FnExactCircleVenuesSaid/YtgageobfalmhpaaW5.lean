import Derived.Test.YtgageobfalmhpaaW4
namespace Go.Proofs.Ytgageobfalmhpaa
open Go Go.RowKit Am
set_option linter.unusedVariables false
set_option linter.unusedSimpArgs false
def isMod (m : Int) : Bool := inB m 3 13 && decide (m % 2 = 1)
def pK (m : Int) : Nat := ((m - 1) / 2).toNat
def pat (m : Int) (k : Nat) : List (Nat × List Int) := (List.range k).map fun (j : Nat) => (2, [((j + 1 : Nat) : Int), m - ((j + 1 : Nat) : Int)])
theorem pat_succ (m : Int) (k : Nat) : pat m (k + 1) = pat m k ++ [(2, [((k + 1 : Nat) : Int), m - ((k + 1 : Nat) : Int)])] := by
  unfold pat; rw [List.range_succ, List.map_append]; rfl
theorem pat_len (m : Int) (k : Nat) : (pat m k).length = k := by simp [pat]
theorem pat_small (m : Int) (k : Nat) : ∀ y ∈ pat m k, y.2.length ≤ 14 := by
  intro y hy
  obtain ⟨j, _, rfl⟩ := List.mem_map.1 hy
  simp
theorem isMod_of {m : Int} (h : isMod m = true) : 3 ≤ m ∧ m ≤ 13 ∧ m % 2 = 1 := by
  unfold isMod at h
  rw [Bool.and_eq_true, decide_eq_true_eq] at h
  have := inB_of h.1
  exact ⟨this.1, this.2, h.2⟩
theorem pK_of {m : Int} (h : isMod m = true) : 1 ≤ pK m ∧ pK m ≤ 6 ∧ 2 * (pK m : Int) + 1 = m := by
  have := isMod_of h
  unfold pK; omega

theorem l03Modulus_ok (H : AHeap) (m : Int) : ACall Try.prog 31 ([.int .i64 (m)]) H (.bool (isMod m)) H := by
  refine ACall.body (N := 10) [(0, .int .i64 (m))] Try.func31 rfl rfl rfl rfl ?_
  refine AWp.seq ?_
  refine AWp.region ?_
  refine AOps.p rfl (p_assign rfl) ?_
  refine AOps.nil ?_
  refine AWp.cut (fun t' H' => H = H' ∧ Sub [(0, .int .i64 (m)), (2, .bool ((inB m 3 13) && (decide (m % 2 = 1))))] t') ?_ ?_
  · refine AWp.region ?_
    refine AOps.p rfl (p_move rfl) ?_
    refine AOps.c rfl (o_call (vs := [.int .i64 (m), .int .i64 (3), .int .i64 (13)]) rfl Try.call34 (l01In_ok _ _ _ _)) ?_
    refine AOps.p rfl (p_move rfl) ?_
    refine AOps.cases (d := 5) rfl (fun c1 => ?_) (fun c1 => ?_)
    · have d1 := c1
      try simp only [inB, Bool.and_eq_true, Bool.or_eq_true, Bool.and_eq_false_iff, Bool.or_eq_false_iff, Bool.not_eq_true', Bool.not_eq_false', decide_eq_true_eq, decide_eq_false_iff_not, Int.not_le, Int.not_lt] at d1
      have hm3 := inB_of c1; have hm4 := hm3.1; have hm5 := hm3.2
      refine AOps.gp rfl rfl rfl (p_move rfl) ?_
      refine AOps.gp rfl rfl rfl (p_rem rfl rfl (by omega) (Int.tmod_eq_emod_of_nonneg (by omega))) ?_
      refine AOps.gp rfl rfl rfl (p_eql rfl rfl) ?_
      refine AOps.p rfl (p_pickT rfl rfl) ?_
      refine AOps.p rfl (p_assign rfl) ?_
      refine AOps.nil ?_
      exact ⟨rfl, Sub.cons' rfl rfl (Sub.cons' rfl (bool_eq (by simp only [c1, Bool.true_and, Bool.false_and, Bool.and_true, Bool.and_false, Bool.true_or, Bool.false_or, Bool.or_true, Bool.or_false, Bool.not_true, Bool.not_false, cond_true, cond_false])) (Sub.nil _))⟩
    · have d1 := c1
      try simp only [inB, Bool.and_eq_true, Bool.or_eq_true, Bool.and_eq_false_iff, Bool.or_eq_false_iff, Bool.not_eq_true', Bool.not_eq_false', decide_eq_true_eq, decide_eq_false_iff_not, Int.not_le, Int.not_lt] at d1
      refine AOps.gn rfl rfl rfl ?_
      refine AOps.gn rfl rfl rfl ?_
      refine AOps.gn rfl rfl rfl ?_
      refine AOps.p rfl (p_pickF rfl rfl) ?_
      refine AOps.p rfl (p_assign rfl) ?_
      refine AOps.nil ?_
      exact ⟨rfl, Sub.cons' rfl rfl (Sub.cons' rfl (bool_eq (by simp only [c1, Bool.true_and, Bool.false_and, Bool.and_true, Bool.and_false, Bool.true_or, Bool.false_or, Bool.or_true, Bool.or_false, Bool.not_true, Bool.not_false, cond_true, cond_false])) (Sub.nil _))⟩
  · rintro t' _ ⟨rfl, hsub⟩
    refine AWp.sub hsub ?_
    refine AWp.ret ?_
    refine ends (.inr rfl) (res1 rfl (rv_tmp rfl)) ?_ (Fin.refl _ _ _)
    -- return 1: .bool ((inB m 3 13) && (decide (m % 2 = 1)))
    exact rfl

theorem isModulus_ok (H : AHeap) (m : Int) : ACall Try.prog 33 ([.int .i64 (m)]) H (.bool (isMod m)) H := by
  refine ACall.body (N := 10) [(0, .int .i64 (m))] Try.func33 rfl rfl rfl rfl ?_
  refine AWp.seq ?_
  refine AWp.region ?_
  refine AOps.p rfl (p_assign rfl) ?_
  refine AOps.nil ?_
  refine AWp.cut (fun t' H' => H = H' ∧ Sub [(0, .int .i64 (m)), (2, .bool ((inB m 3 13) && (decide (m % 2 = 1))))] t') ?_ ?_
  · refine AWp.region ?_
    refine AOps.p rfl (p_move rfl) ?_
    refine AOps.c rfl (o_call (vs := [.int .i64 (m), .int .i64 (3), .int .i64 (13)]) rfl Try.call30 (between_ok _ _ _ _)) ?_
    refine AOps.p rfl (p_move rfl) ?_
    refine AOps.cases (d := 5) rfl (fun c1 => ?_) (fun c1 => ?_)
    · have d1 := c1
      try simp only [inB, Bool.and_eq_true, Bool.or_eq_true, Bool.and_eq_false_iff, Bool.or_eq_false_iff, Bool.not_eq_true', Bool.not_eq_false', decide_eq_true_eq, decide_eq_false_iff_not, Int.not_le, Int.not_lt] at d1
      have hm3 := inB_of c1; have hm4 := hm3.1; have hm5 := hm3.2
      refine AOps.gp rfl rfl rfl (p_move rfl) ?_
      refine AOps.gp rfl rfl rfl (p_rem rfl rfl (by omega) (Int.tmod_eq_emod_of_nonneg (by omega))) ?_
      refine AOps.gp rfl rfl rfl (p_eql rfl rfl) ?_
      refine AOps.p rfl (p_pickT rfl rfl) ?_
      refine AOps.p rfl (p_assign rfl) ?_
      refine AOps.nil ?_
      exact ⟨rfl, Sub.cons' rfl rfl (Sub.cons' rfl (bool_eq (by simp only [c1, Bool.true_and, Bool.false_and, Bool.and_true, Bool.and_false, Bool.true_or, Bool.false_or, Bool.or_true, Bool.or_false, Bool.not_true, Bool.not_false, cond_true, cond_false])) (Sub.nil _))⟩
    · have d1 := c1
      try simp only [inB, Bool.and_eq_true, Bool.or_eq_true, Bool.and_eq_false_iff, Bool.or_eq_false_iff, Bool.not_eq_true', Bool.not_eq_false', decide_eq_true_eq, decide_eq_false_iff_not, Int.not_le, Int.not_lt] at d1
      refine AOps.gn rfl rfl rfl ?_
      refine AOps.gn rfl rfl rfl ?_
      refine AOps.gn rfl rfl rfl ?_
      refine AOps.p rfl (p_pickF rfl rfl) ?_
      refine AOps.p rfl (p_assign rfl) ?_
      refine AOps.nil ?_
      exact ⟨rfl, Sub.cons' rfl rfl (Sub.cons' rfl (bool_eq (by simp only [c1, Bool.true_and, Bool.false_and, Bool.and_true, Bool.and_false, Bool.true_or, Bool.false_or, Bool.or_true, Bool.or_false, Bool.not_true, Bool.not_false, cond_true, cond_false])) (Sub.nil _))⟩
  · rintro t' _ ⟨rfl, hsub⟩
    refine AWp.sub hsub ?_
    refine AWp.ret ?_
    refine ends (.inr rfl) (res1 rfl (rv_tmp rfl)) ?_ (Fin.refl _ _ _)
    -- return 1: .bool ((inB m 3 13) && (decide (m % 2 = 1)))
    exact rfl

theorem l03Patterned_ok (H : AHeap) (m : Int) (hm : isMod m = true) {i' : Nat} {H' : AHeap} (hi : H.length = i') (hH : H ++ placed H.length (pat m (pK m)) = H') : ACall Try.prog 32 ([.int .i64 (m)]) H ((.slice (some ⟨i', 0, none⟩) (pK m) (capU + 1))) H' := by
  subst hi hH
  have hmm := isMod_of hm
  have hK := pK_of hm
  refine ACall.body (N := 22) [(0, .int .i64 (m))] Try.func32 rfl rfl rfl rfl ?_
  refine AWp.seq ?_
  refine AWp.region ?_
  refine AOps.p rfl (p_assign rfl) ?_
  refine AOps.nil ?_
  refine AWp.seq ?_
  refine AWp.region ?_
  refine AOps.c rfl (s_buildTab (i := H.length + 0) (vs := []) (X := []) Try.underlying28 Try.sizeOf34 Try.zeroValue34 rfl rfl (by decide) rfl rfl rfl rfl) ?_
  refine AOps.p rfl (p_assign rfl) ?_
  refine AOps.nil ?_
  refine AWp.seq ?_
  refine AWp.seq ?_
  refine AWp.region ?_
  refine AOps.p rfl (p_assign rfl) ?_
  refine AOps.nil ?_
  refine AWp.block ?_
  refine AWp.round (α := Nat × Nat × Nat × Tab × AHeap) (fun (k, o, c, T, G) => [(0, .int .i64 (m)), (2, .slice none 0 0), (3, .slice (some ⟨o, 0, none⟩) (k) (c)), (4, .int .i64 (((k + 1 : Nat) : Int)))]) (fun (k, o, c, T, G) => G) (fun (k, o, c, T, G) => (k ≤ pK m ∧ Buf (H.length) G (some ⟨o, 0, none⟩) k c 1 (Tab.cells T) ∧ TabW (H.length) G T ∧ (∀ x ∈ T, x.1 ≠ o) ∧ Tab.caps T = pat m k ∧ T.length = k ∧ c = (if k = 0 then 0 else capU + 1)) ∧ (∀ j, j < H.length → hget G j = hget H j) ∧ H.length ≤ G.length) (fun (k, o, c, T, G) => pK m - k) (0, H.length + 0, 0, [], H ++ [AObj.row false (Tab.cells ([]))]) ⟨⟨Nat.zero_le _, Buf.new (by omega) (own_row rfl) rfl (.inr ⟨rfl, by decide⟩), TabW.nil _ _, (fun x hx => (by cases hx)), rfl, rfl, rfl⟩, (fun j hj => hget_append_lt hj), (by simp only [List.length_append, List.length_cons, List.length_nil]; omega)⟩ (Sub.cons' rfl rfl (Sub.cons' rfl rfl (Sub.cons' rfl rfl (Sub.cons' rfl rfl (Sub.nil _))))) rfl ?_
  rintro ⟨k, o, c, T, G⟩ ⟨hInv0, holdG, hbG⟩
  obtain ⟨hk, hB, hT, hno, hcaps, hTl, hcap⟩ := hInv0
  have fB := (Buf.row hB).1
  have lB := row_lt fB
  have hbi := (Buf.row hB).2.1
  refine AWp.sub (t' := [(0, .int .i64 (m)), (2, .slice none 0 0), (3, .slice (some ⟨o, 0, none⟩) (k) (c)), (4, .int .i64 (((k + 1 : Nat) : Int)))]) (Sub.refl _) ?_
  refine AWp.heap (H' := G) rfl ?_
  refine AWp.seq ?_
  refine AWp.seq ?_
  refine AWp.region ?_
  refine AOps.p rfl (p_move rfl) ?_
  refine AOps.p rfl (p_move rfl) ?_
  refine AOps.p rfl (p_sub rfl rfl (wr64 (by omega) (by omega))) ?_
  refine AOps.p rfl (p_quo rfl rfl (by omega) (wrdiv (by omega) (by omega) (by omega))) ?_
  refine AOps.p rfl (p_leq rfl rfl) ?_
  refine AOps.nil ?_
  refine AWp.cond rfl (fun c1 => ?_) (fun c1 => ?_)
  · have d1 := c1
    try simp only [inB, Bool.and_eq_true, Bool.or_eq_true, Bool.and_eq_false_iff, Bool.or_eq_false_iff, Bool.not_eq_true', Bool.not_eq_false', decide_eq_true_eq, decide_eq_false_iff_not, Int.not_le, Int.not_lt] at d1
    refine AWp.skip ?_
    refine AWp.seq ?_
    refine AWp.block ?_
    refine AWp.region ?_
    refine AOps.p rfl (p_move rfl) ?_
    refine AOps.p rfl (p_move rfl) ?_
    refine AOps.p rfl (p_move rfl) ?_
    refine AOps.p rfl (p_move rfl) ?_
    refine AOps.p rfl (p_sub rfl rfl (wr64 (by omega) (by omega))) ?_
    refine AOps.c rfl (s_buildInts (i := G.length + 0) (vs := [(0, .int .i64 (((k + 1 : Nat) : Int))), (1, .int .i64 (m - ((k + 1 : Nat) : Int)))]) (xs := [((k + 1 : Nat) : Int), m - ((k + 1 : Nat) : Int)]) Try.underlying34 Try.sizeOf2 Try.zeroValue2 rfl rfl (by decide) rfl rfl rfl rfl) ?_
    refine AOps.c rfl (s_buildTab (i := G.length + 1) (vs := [(0, .slice (some ⟨G.length + 0, 0, none⟩) (2) (2))]) (X := [(G.length + 0, 2, [((k + 1 : Nat) : Int), m - ((k + 1 : Nat) : Int)])]) Try.underlying28 Try.sizeOf34 Try.zeroValue34 rfl rfl (by decide) rfl rfl (by exact List.length_append) (by exact List.append_assoc _ _ _)) ?_
    refine AOps.c rfl (s_append (i' := (G ++ [AObj.row false (ints ([((k + 1 : Nat) : Int), m - ((k + 1 : Nat) : Int)])), AObj.row false (Tab.cells ([(G.length + 0, 2, [((k + 1 : Nat) : Int), m - ((k + 1 : Nat) : Int)])]))]).length) (by_ := 24) (us := Tab.cells T) (vs := Tab.cells ([(G.length + 0, 2, [((k + 1 : Nat) : Int), m - ((k + 1 : Nat) : Int)])])) (k := 1) Try.underlying28 Try.underlying28 Try.typeInfo34 Try.sizeOf34 Try.zeroValue34 rfl rfl rfl rfl rfl (Buf.more hB) (own_row rfl) (by rw [Tab.cells_len]; first | rfl | omega) (by omega) tab_one ⟨by omega, by decide⟩ rfl (congrArg (fun c => kill _ _ ++ [AObj.row false c]) (Tab.cells_app _ _).symm)) ?_
    obtain ⟨G1, hG1⟩ : ∃ Gx_ : AHeap, Gx_ = kill (some ⟨o, 0, none⟩) (G ++ [AObj.row false (ints ([((k + 1 : Nat) : Int), m - ((k + 1 : Nat) : Int)])), AObj.row false (Tab.cells ([(G.length + 0, 2, [((k + 1 : Nat) : Int), m - ((k + 1 : Nat) : Int)])]))]) ++ [AObj.row false (Tab.cells (T ++ [(G.length + 0, 2, [((k + 1 : Nat) : Int), m - ((k + 1 : Nat) : Int)])]))] := ⟨_, rfl⟩
    have lG1 : G1.length = G.length + 2 + 1 := by rw [hG1, append_len]; rw [List.length_append]; rfl
    have oG1 : Buf (H.length) (G ++ [AObj.row false (ints ([((k + 1 : Nat) : Int), m - ((k + 1 : Nat) : Int)])), AObj.row false (Tab.cells ([(G.length + 0, 2, [((k + 1 : Nat) : Int), m - ((k + 1 : Nat) : Int)])]))]) (some ⟨o, 0, none⟩) (k) (c) 1 (Tab.cells T) := (Buf.more hB)
    have kG1_2 : hget G1 (G.length + 0) = AObj.row false (ints ([((k + 1 : Nat) : Int), m - ((k + 1 : Nat) : Int)])) := by rw [hG1]; exact (append_get2 (by simp only [List.length_append, List.length_cons, List.length_nil]; omega) (by first | exact Buf.below oG1 (by omega) | (intro x e; cases e; dsimp only; omega))).trans (own_row rfl)
    have mG1_2 : G.length + 0 < G1.length := by omega
    have holdG1 : ∀ j, j < H.length → hget G1 j = hget H j := fun j hj => by rw [hG1]; exact (append_get2 (by simp only [List.length_append, List.length_cons, List.length_nil]; omega) (Buf.below oG1 (by omega))).trans ((fun j hj => (hget_append_lt (by omega)).trans (holdG j hj)) j hj)
    have nG1 : hget G1 ((G ++ [AObj.row false (ints ([((k + 1 : Nat) : Int), m - ((k + 1 : Nat) : Int)])), AObj.row false (Tab.cells ([(G.length + 0, 2, [((k + 1 : Nat) : Int), m - ((k + 1 : Nat) : Int)])]))]).length) = AObj.row false (Tab.cells (T ++ [(G.length + 0, 2, [((k + 1 : Nat) : Int), m - ((k + 1 : Nat) : Int)])])) := by rw [hG1]; exact append_new
    have eG1 : (G ++ [AObj.row false (ints ([((k + 1 : Nat) : Int), m - ((k + 1 : Nat) : Int)])), AObj.row false (Tab.cells ([(G.length + 0, 2, [((k + 1 : Nat) : Int), m - ((k + 1 : Nat) : Int)])]))]).length = G.length + 2 := List.length_append
    have qG1 : (G ++ [AObj.row false (ints ([((k + 1 : Nat) : Int), m - ((k + 1 : Nat) : Int)])), AObj.row false (Tab.cells ([(G.length + 0, 2, [((k + 1 : Nat) : Int), m - ((k + 1 : Nat) : Int)])]))]).length < G1.length := by omega
    have bG1 : Buf (H.length) G1 (some ⟨(G ++ [AObj.row false (ints ([((k + 1 : Nat) : Int), m - ((k + 1 : Nat) : Int)])), AObj.row false (Tab.cells ([(G.length + 0, 2, [((k + 1 : Nat) : Int), m - ((k + 1 : Nat) : Int)])]))]).length, 0, none⟩) (k + 1) (capU + 1) 1 (Tab.cells (T ++ [(G.length + 0, 2, [((k + 1 : Nat) : Int), m - ((k + 1 : Nat) : Int)])])) := Buf.new (by omega) nG1 (by rw [Tab.cells_len, List.length_append, hTl]; simp) (.inl rfl)
    refine AOps.heap (H' := G1) hG1.symm ?_
    refine AOps.p rfl (p_assign rfl) ?_
    refine AOps.nil ?_
    refine AWp.region ?_
    refine AOps.p rfl (p_move rfl) ?_
    refine AOps.p rfl (p_add rfl rfl (wr64 (by omega) (by omega))) ?_
    refine AOps.p rfl (p_assign rfl) ?_
    refine AOps.nil ?_
    have hT2 : TabW (H.length) G1 (T ++ [(G.length + 0, 2, [((k + 1 : Nat) : Int), m - ((k + 1 : Nat) : Int)])]) := TabW.add (by rw [hG1]; exact TabW.appended hT (fun a e x hx => by cases e; exact hno x hx)) (by omega) kG1_2 (fun x hx => by have := hT.r.lt hx; omega)
    have hno2 : ∀ x ∈ T ++ [(G.length + 0, 2, [((k + 1 : Nat) : Int), m - ((k + 1 : Nat) : Int)])], x.1 ≠ (G ++ [AObj.row false (ints ([((k + 1 : Nat) : Int), m - ((k + 1 : Nat) : Int)])), AObj.row false (Tab.cells ([(G.length + 0, 2, [((k + 1 : Nat) : Int), m - ((k + 1 : Nat) : Int)])]))]).length := fun x hx => by
      rcases List.mem_append.1 hx with hx | hx
      · have := hT.r.lt hx; omega
      · simp only [List.mem_cons, List.not_mem_nil, or_false] at hx; subst hx; show G.length + 0 ≠ (G ++ [AObj.row false (ints ([((k + 1 : Nat) : Int), m - ((k + 1 : Nat) : Int)])), AObj.row false (Tab.cells ([(G.length + 0, 2, [((k + 1 : Nat) : Int), m - ((k + 1 : Nat) : Int)])]))]).length; omega
    have hcaps2 : Tab.caps (T ++ [(G.length + 0, 2, [((k + 1 : Nat) : Int), m - ((k + 1 : Nat) : Int)])]) = pat m (k + 1) := by unfold Tab.caps at *; rw [List.map_append, hcaps]; exact (pat_succ _ _).symm
    exact ⟨(k + 1, (G ++ [AObj.row false (ints ([((k + 1 : Nat) : Int), m - ((k + 1 : Nat) : Int)])), AObj.row false (Tab.cells ([(G.length + 0, 2, [((k + 1 : Nat) : Int), m - ((k + 1 : Nat) : Int)])]))]).length, capU + 1, T ++ [(G.length + 0, 2, [((k + 1 : Nat) : Int), m - ((k + 1 : Nat) : Int)])], G1), ⟨⟨by omega, bG1, hT2, hno2, hcaps2, by rw [List.length_append, hTl]; rfl, (if_neg (by omega)).symm⟩, holdG1, (by omega)⟩, by show pK m - (k + 1) < pK m - k; omega, Sub.cons' rfl rfl (Sub.cons' rfl rfl (Sub.cons' rfl (by first | rfl | (exact int_eq (by omega))) (Sub.cons' rfl (by first | rfl | (exact int_eq (by omega))) (Sub.nil _)))), rfl⟩
  · have d1 := c1
    try simp only [inB, Bool.and_eq_true, Bool.or_eq_true, Bool.and_eq_false_iff, Bool.or_eq_false_iff, Bool.not_eq_true', Bool.not_eq_false', decide_eq_true_eq, decide_eq_false_iff_not, Int.not_le, Int.not_lt] at d1
    refine AWp.exit ?_
    refine AWp.seq ?_
    refine AWp.region ?_
    refine AOps.p rfl (p_move rfl) ?_
    refine AOps.p rfl (p_assign rfl) ?_
    refine AOps.nil ?_
    refine AWp.ret ?_
    refine ends2 (.inr rfl) (res1 rfl (rv_tmp rfl)) ?_
    -- return 1: .slice (some ⟨o, 0, none⟩) (k) (c)
    have e : k = pK m := by omega
    subst e
    rw [hcap, if_neg (by omega)]
    exact Fin.tab (o := o) (T := T) holdG (by omega) fB hT hno (by rw [hcaps]) ren_tab

theorem iPat_ok (H : AHeap) (m : Int) (hm : isMod m = true) {i' : Nat} {H' : AHeap} (hi : H.length = i') (hH : H ++ placed H.length (pat m (pK m)) = H') : ACall Try.prog 13 ([.int .i64 (m)]) H (.tuple #[.slice (some ⟨i', 0, none⟩) (pK m) (capU + 1), .int .i64 0]) H' := by
  subst hi hH
  have hmm := isMod_of hm
  have hK := pK_of hm
  refine ACall.body (N := 25) [(0, .int .i64 (m))] Try.func13 rfl rfl rfl rfl ?_
  refine AWp.seq ?_
  refine AWp.region ?_
  refine AOps.p rfl (p_assign rfl) ?_
  refine AOps.p rfl (p_assign rfl) ?_
  refine AOps.nil ?_
  refine AWp.seq ?_
  refine AWp.seq ?_
  refine AWp.region ?_
  refine AOps.p rfl (p_move rfl) ?_
  refine AOps.c rfl (o_call (vs := [.int .i64 (m)]) rfl Try.call33 (isModulus_ok _ _)) ?_
  refine AOps.p rfl (p_not rfl) ?_
  refine AOps.nil ?_
  refine AWp.cond rfl (fun c1 => ?_) (fun c1 => ?_)
  · have d1 := c1
    try simp only [inB, Bool.and_eq_true, Bool.or_eq_true, Bool.and_eq_false_iff, Bool.or_eq_false_iff, Bool.not_eq_true', Bool.not_eq_false', decide_eq_true_eq, decide_eq_false_iff_not, Int.not_le, Int.not_lt] at d1
    exact absurd c1 (by rw [hm]; simp)
  · have d1 := c1
    try simp only [inB, Bool.and_eq_true, Bool.or_eq_true, Bool.and_eq_false_iff, Bool.or_eq_false_iff, Bool.not_eq_true', Bool.not_eq_false', decide_eq_true_eq, decide_eq_false_iff_not, Int.not_le, Int.not_lt] at d1
    refine AWp.skip ?_
    refine AWp.seq ?_
    refine AWp.region ?_
    refine AOps.c rfl (s_buildTab (i := H.length + 0) (vs := []) (X := []) Try.underlying28 Try.sizeOf34 Try.zeroValue34 rfl rfl (by decide) rfl rfl rfl rfl) ?_
    refine AOps.p rfl (p_assign rfl) ?_
    refine AOps.nil ?_
    refine AWp.seq ?_
    refine AWp.seq ?_
    refine AWp.region ?_
    refine AOps.p rfl (p_assign rfl) ?_
    refine AOps.nil ?_
    refine AWp.block ?_
    refine AWp.round (α := Nat × Nat × Nat × Tab × AHeap) (fun (k, o, c, T, G) => [(0, .int .i64 (m)), (2, .slice none 0 0), (3, .int .i64 (0)), (4, .slice (some ⟨o, 0, none⟩) (k) (c)), (5, .int .i64 (((k + 1 : Nat) : Int))), (8, .bool (!(isMod m)))]) (fun (k, o, c, T, G) => G) (fun (k, o, c, T, G) => (k ≤ pK m ∧ Buf (H.length) G (some ⟨o, 0, none⟩) k c 1 (Tab.cells T) ∧ TabW (H.length) G T ∧ (∀ x ∈ T, x.1 ≠ o) ∧ Tab.caps T = pat m k ∧ T.length = k ∧ c = (if k = 0 then 0 else capU + 1)) ∧ (∀ j, j < H.length → hget G j = hget H j) ∧ H.length ≤ G.length) (fun (k, o, c, T, G) => pK m - k) (0, H.length + 0, 0, [], H ++ [AObj.row false (Tab.cells ([]))]) ⟨⟨Nat.zero_le _, Buf.new (by omega) (own_row rfl) rfl (.inr ⟨rfl, by decide⟩), TabW.nil _ _, (fun x hx => (by cases hx)), rfl, rfl, rfl⟩, (fun j hj => hget_append_lt hj), (by simp only [List.length_append, List.length_cons, List.length_nil]; omega)⟩ (Sub.cons' rfl rfl (Sub.cons' rfl rfl (Sub.cons' rfl rfl (Sub.cons' rfl rfl (Sub.cons' rfl rfl (Sub.cons' rfl rfl (Sub.nil _))))))) rfl ?_
    rintro ⟨k, o, c, T, G⟩ ⟨hInv0, holdG, hbG⟩
    obtain ⟨hk, hB, hT, hno, hcaps, hTl, hcap⟩ := hInv0
    have fB := (Buf.row hB).1
    have lB := row_lt fB
    have hbi := (Buf.row hB).2.1
    refine AWp.sub (t' := [(0, .int .i64 (m)), (2, .slice none 0 0), (3, .int .i64 (0)), (4, .slice (some ⟨o, 0, none⟩) (k) (c)), (5, .int .i64 (((k + 1 : Nat) : Int))), (8, .bool (!(isMod m)))]) (Sub.refl _) ?_
    refine AWp.heap (H' := G) rfl ?_
    refine AWp.seq ?_
    refine AWp.seq ?_
    refine AWp.region ?_
    refine AOps.p rfl (p_move rfl) ?_
    refine AOps.p rfl (p_mul rfl rfl (wr64 (by omega) (by omega))) ?_
    refine AOps.p rfl (p_move rfl) ?_
    refine AOps.p rfl (p_lss rfl rfl) ?_
    refine AOps.nil ?_
    refine AWp.cond rfl (fun c2 => ?_) (fun c2 => ?_)
    · have d2 := c2
      try simp only [inB, Bool.and_eq_true, Bool.or_eq_true, Bool.and_eq_false_iff, Bool.or_eq_false_iff, Bool.not_eq_true', Bool.not_eq_false', decide_eq_true_eq, decide_eq_false_iff_not, Int.not_le, Int.not_lt] at d2
      refine AWp.skip ?_
      refine AWp.seq ?_
      refine AWp.block ?_
      refine AWp.region ?_
      refine AOps.p rfl (p_move rfl) ?_
      refine AOps.p rfl (p_move rfl) ?_
      refine AOps.p rfl (p_move rfl) ?_
      refine AOps.p rfl (p_move rfl) ?_
      refine AOps.p rfl (p_sub rfl rfl (wr64 (by omega) (by omega))) ?_
      refine AOps.c rfl (s_buildInts (i := G.length + 0) (vs := [(0, .int .i64 (((k + 1 : Nat) : Int))), (1, .int .i64 (m - ((k + 1 : Nat) : Int)))]) (xs := [((k + 1 : Nat) : Int), m - ((k + 1 : Nat) : Int)]) Try.underlying34 Try.sizeOf2 Try.zeroValue2 rfl rfl (by decide) rfl rfl rfl rfl) ?_
      refine AOps.c rfl (s_buildTab (i := G.length + 1) (vs := [(0, .slice (some ⟨G.length + 0, 0, none⟩) (2) (2))]) (X := [(G.length + 0, 2, [((k + 1 : Nat) : Int), m - ((k + 1 : Nat) : Int)])]) Try.underlying28 Try.sizeOf34 Try.zeroValue34 rfl rfl (by decide) rfl rfl (by exact List.length_append) (by exact List.append_assoc _ _ _)) ?_
      refine AOps.c rfl (s_append (i' := (G ++ [AObj.row false (ints ([((k + 1 : Nat) : Int), m - ((k + 1 : Nat) : Int)])), AObj.row false (Tab.cells ([(G.length + 0, 2, [((k + 1 : Nat) : Int), m - ((k + 1 : Nat) : Int)])]))]).length) (by_ := 24) (us := Tab.cells T) (vs := Tab.cells ([(G.length + 0, 2, [((k + 1 : Nat) : Int), m - ((k + 1 : Nat) : Int)])])) (k := 1) Try.underlying28 Try.underlying28 Try.typeInfo34 Try.sizeOf34 Try.zeroValue34 rfl rfl rfl rfl rfl (Buf.more hB) (own_row rfl) (by rw [Tab.cells_len]; first | rfl | omega) (by omega) tab_one ⟨by omega, by decide⟩ rfl (congrArg (fun c => kill _ _ ++ [AObj.row false c]) (Tab.cells_app _ _).symm)) ?_
      obtain ⟨G1, hG1⟩ : ∃ Gx_ : AHeap, Gx_ = kill (some ⟨o, 0, none⟩) (G ++ [AObj.row false (ints ([((k + 1 : Nat) : Int), m - ((k + 1 : Nat) : Int)])), AObj.row false (Tab.cells ([(G.length + 0, 2, [((k + 1 : Nat) : Int), m - ((k + 1 : Nat) : Int)])]))]) ++ [AObj.row false (Tab.cells (T ++ [(G.length + 0, 2, [((k + 1 : Nat) : Int), m - ((k + 1 : Nat) : Int)])]))] := ⟨_, rfl⟩
      have lG1 : G1.length = G.length + 2 + 1 := by rw [hG1, append_len]; rw [List.length_append]; rfl
      have oG1 : Buf (H.length) (G ++ [AObj.row false (ints ([((k + 1 : Nat) : Int), m - ((k + 1 : Nat) : Int)])), AObj.row false (Tab.cells ([(G.length + 0, 2, [((k + 1 : Nat) : Int), m - ((k + 1 : Nat) : Int)])]))]) (some ⟨o, 0, none⟩) (k) (c) 1 (Tab.cells T) := (Buf.more hB)
      have kG1_2 : hget G1 (G.length + 0) = AObj.row false (ints ([((k + 1 : Nat) : Int), m - ((k + 1 : Nat) : Int)])) := by rw [hG1]; exact (append_get2 (by simp only [List.length_append, List.length_cons, List.length_nil]; omega) (by first | exact Buf.below oG1 (by omega) | (intro x e; cases e; dsimp only; omega))).trans (own_row rfl)
      have mG1_2 : G.length + 0 < G1.length := by omega
      have holdG1 : ∀ j, j < H.length → hget G1 j = hget H j := fun j hj => by rw [hG1]; exact (append_get2 (by simp only [List.length_append, List.length_cons, List.length_nil]; omega) (Buf.below oG1 (by omega))).trans ((fun j hj => (hget_append_lt (by omega)).trans (holdG j hj)) j hj)
      have nG1 : hget G1 ((G ++ [AObj.row false (ints ([((k + 1 : Nat) : Int), m - ((k + 1 : Nat) : Int)])), AObj.row false (Tab.cells ([(G.length + 0, 2, [((k + 1 : Nat) : Int), m - ((k + 1 : Nat) : Int)])]))]).length) = AObj.row false (Tab.cells (T ++ [(G.length + 0, 2, [((k + 1 : Nat) : Int), m - ((k + 1 : Nat) : Int)])])) := by rw [hG1]; exact append_new
      have eG1 : (G ++ [AObj.row false (ints ([((k + 1 : Nat) : Int), m - ((k + 1 : Nat) : Int)])), AObj.row false (Tab.cells ([(G.length + 0, 2, [((k + 1 : Nat) : Int), m - ((k + 1 : Nat) : Int)])]))]).length = G.length + 2 := List.length_append
      have qG1 : (G ++ [AObj.row false (ints ([((k + 1 : Nat) : Int), m - ((k + 1 : Nat) : Int)])), AObj.row false (Tab.cells ([(G.length + 0, 2, [((k + 1 : Nat) : Int), m - ((k + 1 : Nat) : Int)])]))]).length < G1.length := by omega
      have bG1 : Buf (H.length) G1 (some ⟨(G ++ [AObj.row false (ints ([((k + 1 : Nat) : Int), m - ((k + 1 : Nat) : Int)])), AObj.row false (Tab.cells ([(G.length + 0, 2, [((k + 1 : Nat) : Int), m - ((k + 1 : Nat) : Int)])]))]).length, 0, none⟩) (k + 1) (capU + 1) 1 (Tab.cells (T ++ [(G.length + 0, 2, [((k + 1 : Nat) : Int), m - ((k + 1 : Nat) : Int)])])) := Buf.new (by omega) nG1 (by rw [Tab.cells_len, List.length_append, hTl]; simp) (.inl rfl)
      refine AOps.heap (H' := G1) hG1.symm ?_
      refine AOps.p rfl (p_assign rfl) ?_
      refine AOps.nil ?_
      refine AWp.region ?_
      refine AOps.p rfl (p_move rfl) ?_
      refine AOps.p rfl (p_add rfl rfl (wr64 (by omega) (by omega))) ?_
      refine AOps.p rfl (p_assign rfl) ?_
      refine AOps.nil ?_
      have hT2 : TabW (H.length) G1 (T ++ [(G.length + 0, 2, [((k + 1 : Nat) : Int), m - ((k + 1 : Nat) : Int)])]) := TabW.add (by rw [hG1]; exact TabW.appended hT (fun a e x hx => by cases e; exact hno x hx)) (by omega) kG1_2 (fun x hx => by have := hT.r.lt hx; omega)
      have hno2 : ∀ x ∈ T ++ [(G.length + 0, 2, [((k + 1 : Nat) : Int), m - ((k + 1 : Nat) : Int)])], x.1 ≠ (G ++ [AObj.row false (ints ([((k + 1 : Nat) : Int), m - ((k + 1 : Nat) : Int)])), AObj.row false (Tab.cells ([(G.length + 0, 2, [((k + 1 : Nat) : Int), m - ((k + 1 : Nat) : Int)])]))]).length := fun x hx => by
        rcases List.mem_append.1 hx with hx | hx
        · have := hT.r.lt hx; omega
        · simp only [List.mem_cons, List.not_mem_nil, or_false] at hx; subst hx; show G.length + 0 ≠ (G ++ [AObj.row false (ints ([((k + 1 : Nat) : Int), m - ((k + 1 : Nat) : Int)])), AObj.row false (Tab.cells ([(G.length + 0, 2, [((k + 1 : Nat) : Int), m - ((k + 1 : Nat) : Int)])]))]).length; omega
      have hcaps2 : Tab.caps (T ++ [(G.length + 0, 2, [((k + 1 : Nat) : Int), m - ((k + 1 : Nat) : Int)])]) = pat m (k + 1) := by unfold Tab.caps at *; rw [List.map_append, hcaps]; exact (pat_succ _ _).symm
      exact ⟨(k + 1, (G ++ [AObj.row false (ints ([((k + 1 : Nat) : Int), m - ((k + 1 : Nat) : Int)])), AObj.row false (Tab.cells ([(G.length + 0, 2, [((k + 1 : Nat) : Int), m - ((k + 1 : Nat) : Int)])]))]).length, capU + 1, T ++ [(G.length + 0, 2, [((k + 1 : Nat) : Int), m - ((k + 1 : Nat) : Int)])], G1), ⟨⟨by omega, bG1, hT2, hno2, hcaps2, by rw [List.length_append, hTl]; rfl, (if_neg (by omega)).symm⟩, holdG1, (by omega)⟩, by show pK m - (k + 1) < pK m - k; omega, Sub.cons' rfl rfl (Sub.cons' rfl rfl (Sub.cons' rfl rfl (Sub.cons' rfl (by first | rfl | (exact int_eq (by omega))) (Sub.cons' rfl (by first | rfl | (exact int_eq (by omega))) (Sub.cons' rfl rfl (Sub.nil _)))))), rfl⟩
    · have d2 := c2
      try simp only [inB, Bool.and_eq_true, Bool.or_eq_true, Bool.and_eq_false_iff, Bool.or_eq_false_iff, Bool.not_eq_true', Bool.not_eq_false', decide_eq_true_eq, decide_eq_false_iff_not, Int.not_le, Int.not_lt] at d2
      refine AWp.exit ?_
      refine AWp.seq ?_
      refine AWp.region ?_
      refine AOps.p rfl (p_move rfl) ?_
      refine AOps.p rfl (p_assign rfl) ?_
      refine AOps.p rfl (p_assign rfl) ?_
      refine AOps.nil ?_
      refine AWp.ret ?_
      refine ends2 (.inr rfl) (res2 rfl (rv_tmp rfl) (rv_tmp rfl)) ?_
      -- return 1: .tuple #[.slice (some ⟨o, 0, none⟩) (k) (c), .int .i64 (0)]
      have e : k = pK m := by omega
      subst e
      rw [hcap, if_neg (by omega)]
      exact Fin.tab (o := o) (T := T) holdG (by omega) fB hT hno (by rw [hcaps]) (ren_tup2 ren_tab (.flat _ (.int _ _)))

theorem sPat_ok (H : AHeap) (m : Int) (hm : isMod m = true) {i' : Nat} {H' : AHeap} (hi : H.length = i') (hH : H ++ placed H.length (pat m (pK m)) = H') : ACall Try.prog 12 ([.int .i64 (m)]) H (.tuple #[.slice (some ⟨i', 0, none⟩) (pK m) (capU + 1), .int .i64 0]) H' := by
  subst hi hH
  have hmm := isMod_of hm
  have hK := pK_of hm
  refine ACall.body (N := 9) [(0, .int .i64 (m))] Try.func12 rfl rfl rfl rfl ?_
  refine AWp.seq ?_
  refine AWp.region ?_
  refine AOps.p rfl (p_assign rfl) ?_
  refine AOps.p rfl (p_assign rfl) ?_
  refine AOps.nil ?_
  refine AWp.seq ?_
  refine AWp.seq ?_
  refine AWp.region ?_
  refine AOps.p rfl (p_move rfl) ?_
  refine AOps.c rfl (o_call (vs := [.int .i64 (m)]) rfl Try.call31 (l03Modulus_ok _ _)) ?_
  refine AOps.p rfl (p_not rfl) ?_
  refine AOps.nil ?_
  refine AWp.cond rfl (fun c1 => ?_) (fun c1 => ?_)
  · have d1 := c1
    try simp only [inB, Bool.and_eq_true, Bool.or_eq_true, Bool.and_eq_false_iff, Bool.or_eq_false_iff, Bool.not_eq_true', Bool.not_eq_false', decide_eq_true_eq, decide_eq_false_iff_not, Int.not_le, Int.not_lt] at d1
    exact absurd c1 (by rw [hm]; simp)
  · have d1 := c1
    try simp only [inB, Bool.and_eq_true, Bool.or_eq_true, Bool.and_eq_false_iff, Bool.or_eq_false_iff, Bool.not_eq_true', Bool.not_eq_false', decide_eq_true_eq, decide_eq_false_iff_not, Int.not_le, Int.not_lt] at d1
    refine AWp.skip ?_
    refine AWp.seq ?_
    refine AWp.region ?_
    refine AOps.p rfl (p_move rfl) ?_
    refine AOps.c rfl (o_call (vs := [.int .i64 (m)]) rfl Try.call32 (l03Patterned_ok _ _ hm rfl rfl)) ?_
    refine AOps.p rfl (p_assign rfl) ?_
    refine AOps.p rfl (p_assign rfl) ?_
    refine AOps.nil ?_
    refine AWp.ret ?_
    refine ends2 (.inr rfl) (res2 rfl (rv_tmp rfl) (rv_tmp rfl)) ?_
    -- return 1: .tuple #[.slice (some ⟨H.length, 0, none⟩) (pK m) (capU + 1), .int .i64 (0)]
    exact Fin.refl _ _ _

theorem sPat_no (H : AHeap) (m : Int) (hm : isMod m = false) : ACall Try.prog 12 ([.int .i64 (m)]) H (.tuple #[.slice none 0 0, .int .i64 2]) H := by
  refine ACall.body (N := 9) [(0, .int .i64 (m))] Try.func12 rfl rfl rfl rfl ?_
  refine AWp.seq ?_
  refine AWp.region ?_
  refine AOps.p rfl (p_assign rfl) ?_
  refine AOps.p rfl (p_assign rfl) ?_
  refine AOps.nil ?_
  refine AWp.seq ?_
  refine AWp.seq ?_
  refine AWp.region ?_
  refine AOps.p rfl (p_move rfl) ?_
  refine AOps.c rfl (o_call (vs := [.int .i64 (m)]) rfl Try.call31 (l03Modulus_ok _ _)) ?_
  refine AOps.p rfl (p_not rfl) ?_
  refine AOps.nil ?_
  refine AWp.cond rfl (fun c1 => ?_) (fun c1 => ?_)
  · have d1 := c1
    try simp only [inB, Bool.and_eq_true, Bool.or_eq_true, Bool.and_eq_false_iff, Bool.or_eq_false_iff, Bool.not_eq_true', Bool.not_eq_false', decide_eq_true_eq, decide_eq_false_iff_not, Int.not_le, Int.not_lt] at d1
    refine AWp.seq ?_
    refine AWp.region ?_
    refine AOps.p rfl (p_assign rfl) ?_
    refine AOps.p rfl (p_assign rfl) ?_
    refine AOps.nil ?_
    refine AWp.ret ?_
    refine ends (.inr rfl) (res2 rfl (rv_tmp rfl) (rv_tmp rfl)) ?_ (Fin.refl _ _ _)
    -- return 1: .tuple #[.slice none 0 0, .int .i64 (2)]
    exact rfl
  · have d1 := c1
    try simp only [inB, Bool.and_eq_true, Bool.or_eq_true, Bool.and_eq_false_iff, Bool.or_eq_false_iff, Bool.not_eq_true', Bool.not_eq_false', decide_eq_true_eq, decide_eq_false_iff_not, Int.not_le, Int.not_lt] at d1
    exact absurd c1 (by rw [hm]; simp)

theorem iPat_no (H : AHeap) (m : Int) (hm : isMod m = false) : ACall Try.prog 13 ([.int .i64 (m)]) H (.tuple #[.slice none 0 0, .int .i64 2]) H := by
  refine ACall.body (N := 25) [(0, .int .i64 (m))] Try.func13 rfl rfl rfl rfl ?_
  refine AWp.seq ?_
  refine AWp.region ?_
  refine AOps.p rfl (p_assign rfl) ?_
  refine AOps.p rfl (p_assign rfl) ?_
  refine AOps.nil ?_
  refine AWp.seq ?_
  refine AWp.seq ?_
  refine AWp.region ?_
  refine AOps.p rfl (p_move rfl) ?_
  refine AOps.c rfl (o_call (vs := [.int .i64 (m)]) rfl Try.call33 (isModulus_ok _ _)) ?_
  refine AOps.p rfl (p_not rfl) ?_
  refine AOps.nil ?_
  refine AWp.cond rfl (fun c1 => ?_) (fun c1 => ?_)
  · have d1 := c1
    try simp only [inB, Bool.and_eq_true, Bool.or_eq_true, Bool.and_eq_false_iff, Bool.or_eq_false_iff, Bool.not_eq_true', Bool.not_eq_false', decide_eq_true_eq, decide_eq_false_iff_not, Int.not_le, Int.not_lt] at d1
    refine AWp.seq ?_
    refine AWp.region ?_
    refine AOps.p rfl (p_assign rfl) ?_
    refine AOps.p rfl (p_assign rfl) ?_
    refine AOps.nil ?_
    refine AWp.ret ?_
    refine ends (.inr rfl) (res2 rfl (rv_tmp rfl) (rv_tmp rfl)) ?_ (Fin.refl _ _ _)
    -- return 1: .tuple #[.slice none 0 0, .int .i64 (2)]
    exact rfl
  · have d1 := c1
    try simp only [inB, Bool.and_eq_true, Bool.or_eq_true, Bool.and_eq_false_iff, Bool.or_eq_false_iff, Bool.not_eq_true', Bool.not_eq_false', decide_eq_true_eq, decide_eq_false_iff_not, Int.not_le, Int.not_lt] at d1
    exact absurd c1 (by rw [hm]; simp)

theorem markSS_nil (H : AHeap) (k : Int) : ACall Try.prog 15 ([.slice none 0 0, .int .i64 (k)]) H (.int .i64 (k)) H := by
  refine ACall.body (N := 19) [(0, .slice none 0 0), (1, .int .i64 (k))] Try.func15 rfl rfl rfl rfl ?_
  refine AWp.seq ?_
  refine AWp.region ?_
  refine AOps.p rfl (p_assign rfl) ?_
  refine AOps.nil ?_
  refine AWp.seq ?_
  refine AWp.seq ?_
  refine AWp.region ?_
  refine AOps.p rfl (p_assign rfl) ?_
  refine AOps.nil ?_
  refine AWp.block ?_
  refine AWp.round (α := Nat) (fun j => [(0, .slice none 0 0), (1, .int .i64 (k)), (4, .int .i64 (0)), (5, .int .i64 (((j : Nat) : Int)))]) (fun j => H) (fun j => j = 0) (fun j => 0) 0 rfl (Sub.cons' rfl rfl (Sub.cons' rfl rfl (Sub.cons' rfl rfl (Sub.cons' rfl rfl (Sub.nil _))))) rfl ?_
  intro j hInv0
  refine AWp.sub (t' := [(0, .slice none 0 0), (1, .int .i64 (k)), (4, .int .i64 (0)), (5, .int .i64 (((j : Nat) : Int)))]) (Sub.refl _) ?_
  refine AWp.heap (H' := H) rfl ?_
  refine AWp.seq ?_
  refine AWp.seq ?_
  refine AWp.region ?_
  refine AOps.p rfl (p_move rfl) ?_
  refine AOps.p rfl (p_move rfl) ?_
  refine AOps.p rfl (p_len_slice rfl Try.underlying28) ?_
  refine AOps.p rfl (p_lss rfl rfl) ?_
  refine AOps.nil ?_
  refine AWp.cond rfl (fun c1 => ?_) (fun c1 => ?_)
  · have d1 := c1
    try simp only [inB, Bool.and_eq_true, Bool.or_eq_true, Bool.and_eq_false_iff, Bool.or_eq_false_iff, Bool.not_eq_true', Bool.not_eq_false', decide_eq_true_eq, decide_eq_false_iff_not, Int.not_le, Int.not_lt] at d1
    exact absurd d1 (by omega)
  · have d1 := c1
    try simp only [inB, Bool.and_eq_true, Bool.or_eq_true, Bool.and_eq_false_iff, Bool.or_eq_false_iff, Bool.not_eq_true', Bool.not_eq_false', decide_eq_true_eq, decide_eq_false_iff_not, Int.not_le, Int.not_lt] at d1
    refine AWp.exit ?_
    refine AWp.seq ?_
    refine AWp.region ?_
    refine AOps.p rfl (p_move rfl) ?_
    refine AOps.p rfl (p_assign rfl) ?_
    refine AOps.nil ?_
    refine AWp.ret ?_
    refine ends (.inr rfl) (res1 rfl (rv_tmp rfl)) ?_ (Fin.refl _ _ _)
    -- return 1: .int .i64 (k)
    exact rfl

theorem heldSS_nil (H : AHeap) (k : Int) : ACall Try.prog 16 ([.slice none 0 0, .int .i64 (k)]) H (.int .i64 (k)) H := by
  refine ACall.body (N := 21) [(0, .slice none 0 0), (1, .int .i64 (k))] Try.func16 rfl rfl rfl rfl ?_
  refine AWp.seq ?_
  refine AWp.region ?_
  refine AOps.p rfl (p_assign rfl) ?_
  refine AOps.nil ?_
  refine AWp.seq ?_
  refine AWp.seq ?_
  refine AWp.region ?_
  refine AOps.p rfl (p_assign rfl) ?_
  refine AOps.nil ?_
  refine AWp.block ?_
  refine AWp.round (α := Nat) (fun j => [(0, .slice none 0 0), (1, .int .i64 (k)), (4, .int .i64 (0)), (5, .int .i64 (((j : Nat) : Int)))]) (fun j => H) (fun j => j = 0) (fun j => 0) 0 rfl (Sub.cons' rfl rfl (Sub.cons' rfl rfl (Sub.cons' rfl rfl (Sub.cons' rfl rfl (Sub.nil _))))) rfl ?_
  intro j hInv0
  refine AWp.sub (t' := [(0, .slice none 0 0), (1, .int .i64 (k)), (4, .int .i64 (0)), (5, .int .i64 (((j : Nat) : Int)))]) (Sub.refl _) ?_
  refine AWp.heap (H' := H) rfl ?_
  refine AWp.seq ?_
  refine AWp.seq ?_
  refine AWp.region ?_
  refine AOps.p rfl (p_move rfl) ?_
  refine AOps.p rfl (p_move rfl) ?_
  refine AOps.p rfl (p_len_slice rfl Try.underlying28) ?_
  refine AOps.p rfl (p_lss rfl rfl) ?_
  refine AOps.nil ?_
  refine AWp.cond rfl (fun c1 => ?_) (fun c1 => ?_)
  · have d1 := c1
    try simp only [inB, Bool.and_eq_true, Bool.or_eq_true, Bool.and_eq_false_iff, Bool.or_eq_false_iff, Bool.not_eq_true', Bool.not_eq_false', decide_eq_true_eq, decide_eq_false_iff_not, Int.not_le, Int.not_lt] at d1
    exact absurd d1 (by omega)
  · have d1 := c1
    try simp only [inB, Bool.and_eq_true, Bool.or_eq_true, Bool.and_eq_false_iff, Bool.or_eq_false_iff, Bool.not_eq_true', Bool.not_eq_false', decide_eq_true_eq, decide_eq_false_iff_not, Int.not_le, Int.not_lt] at d1
    refine AWp.exit ?_
    refine AWp.seq ?_
    refine AWp.region ?_
    refine AOps.p rfl (p_move rfl) ?_
    refine AOps.p rfl (p_assign rfl) ?_
    refine AOps.nil ?_
    refine AWp.ret ?_
    refine ends (.inr rfl) (res1 rfl (rv_tmp rfl)) ?_ (Fin.refl _ _ _)
    -- return 1: .int .i64 (k)
    exact rfl

theorem lawPat_yes (H : AHeap) (m : Int) (hm : isMod m = true) : ACall Try.prog 5 ([.int .i64 (m)]) H (.bool true) H := by
  have hmm := isMod_of hm
  have hK := pK_of hm
  refine ACall.body (N := 63) [(0, .int .i64 (m))] Try.func5 rfl rfl rfl rfl ?_
  refine AWp.seq ?_
  refine AWp.region ?_
  refine AOps.p rfl (p_assign rfl) ?_
  refine AOps.nil ?_
  refine AWp.seq ?_
  refine AWp.region ?_
  refine AOps.p rfl (p_move rfl) ?_
  refine AOps.c rfl (o_call (vs := [.int .i64 (m)]) rfl Try.call12 (sPat_ok _ _ hm (i' := H.length) (H' := H ++ placed H.length (pat m (pK m))) rfl rfl)) ?_
  obtain ⟨G1, hG1⟩ : ∃ Gx_ : AHeap, Gx_ = H ++ placed H.length (pat m (pK m)) := ⟨_, rfl⟩
  have yG1 : List.length (pat m (pK m)) = pK m := pat_len _ _
  have lG1 : G1.length = H.length + (pK m + 1) := by rw [hG1, List.length_append, placed_len, yG1]
  obtain ⟨T1, hT1⟩ : ∃ Tx_ : Tab, Tx_ = canT (H.length + 1) (pat m (pK m)) := ⟨_, rfl⟩
  have nG1 : hget G1 (H.length) = AObj.row false (Tab.cells T1) := by rw [hG1, hT1]; exact placed_get _ _
  have wG1_T1 : TabW (H.length + 1) G1 T1 := by rw [hG1, hT1]; exact placed_tab _ _
  have iT1 : ∀ x ∈ T1, H.length + 1 ≤ x.1 ∧ x.1 < H.length + 1 + pK m := fun x hx => by rw [hT1] at hx; have := canT_ids x hx; omega
  have nT1 : List.length T1 = pK m := by rw [hT1, canT_len]; exact yG1
  have rT1 : Tab.rows T1 = (pat m (pK m)).map (·.2) := by rw [hT1]; exact canT_rows _ _
  have bT1 : ∀ x ∈ T1, x.2.2.length ≤ 14 := by rw [hT1]; exact canT_small (pat_small _ _)
  have tT1 : tot T1 ≤ (pK m) * 14 := by rw [← nT1]; exact tot_bound bT1
  have qG1 : H.length < G1.length := by omega
  have holdG1 : ∀ j, j < H.length → hget G1 j = hget H j := fun j hj => by rw [hG1]; exact (hget_append_lt (by omega)).trans ((fun j hj => rfl) j hj)
  refine AOps.heap (H' := G1) hG1.symm ?_
  refine AOps.p rfl (p_move rfl) ?_
  refine AOps.p rfl (p_extract rfl rfl) ?_
  refine AOps.p rfl (p_extract rfl rfl) ?_
  refine AOps.p rfl (p_assign rfl) ?_
  refine AOps.p rfl (p_assign rfl) ?_
  refine AOps.nil ?_
  refine AWp.seq ?_
  refine AWp.region ?_
  refine AOps.p rfl (p_move rfl) ?_
  refine AOps.c rfl (o_call (vs := [.int .i64 (m)]) rfl Try.call13 (iPat_ok _ _ hm (i' := G1.length) (H' := G1 ++ placed G1.length (pat m (pK m))) rfl rfl)) ?_
  obtain ⟨G2, hG2⟩ : ∃ Gx_ : AHeap, Gx_ = G1 ++ placed G1.length (pat m (pK m)) := ⟨_, rfl⟩
  have yG2 : List.length (pat m (pK m)) = pK m := pat_len _ _
  have lG2 : G2.length = G1.length + (pK m + 1) := by rw [hG2, List.length_append, placed_len, yG2]
  obtain ⟨T2, hT2⟩ : ∃ Tx_ : Tab, Tx_ = canT (G1.length + 1) (pat m (pK m)) := ⟨_, rfl⟩
  have nG2 : hget G2 (G1.length) = AObj.row false (Tab.cells T2) := by rw [hG2, hT2]; exact placed_get _ _
  have wG2_T2 : TabW (G1.length + 1) G2 T2 := by rw [hG2, hT2]; exact placed_tab _ _
  have iT2 : ∀ x ∈ T2, G1.length + 1 ≤ x.1 ∧ x.1 < G1.length + 1 + pK m := fun x hx => by rw [hT2] at hx; have := canT_ids x hx; omega
  have nT2 : List.length T2 = pK m := by rw [hT2, canT_len]; exact yG2
  have rT2 : Tab.rows T2 = (pat m (pK m)).map (·.2) := by rw [hT2]; exact canT_rows _ _
  have bT2 : ∀ x ∈ T2, x.2.2.length ≤ 14 := by rw [hT2]; exact canT_small (pat_small _ _)
  have tT2 : tot T2 ≤ (pK m) * 14 := by rw [← nT2]; exact tot_bound bT2
  have kG2_1 : hget G2 (H.length) = AObj.row false (Tab.cells T1) := by rw [hG2]; exact (hget_append_lt (by have := qG1; omega)).trans (nG1)
  have mG2_1 : H.length < G2.length := by have := qG1; omega
  have qG2 : G1.length < G2.length := by omega
  have wG2_T1 : TabW (H.length + 1) G2 T1 := by rw [hG2]; exact (wG1_T1).more
  have holdG2 : ∀ j, j < H.length → hget G2 j = hget H j := fun j hj => by rw [hG2]; exact (hget_append_lt (by omega)).trans (holdG1 j hj)
  refine AOps.heap (H' := G2) hG2.symm ?_
  refine AOps.p rfl (p_move rfl) ?_
  refine AOps.p rfl (p_extract rfl rfl) ?_
  refine AOps.p rfl (p_extract rfl rfl) ?_
  refine AOps.p rfl (p_assign rfl) ?_
  refine AOps.p rfl (p_assign rfl) ?_
  refine AOps.nil ?_
  refine AWp.seq ?_
  refine AWp.seq ?_
  refine AWp.region ?_
  refine AOps.p rfl (p_move rfl) ?_
  refine AOps.p rfl (p_move rfl) ?_
  refine AOps.c rfl (o_call (vs := [.slice (some ⟨G1.length, 0, none⟩) (pK m) (capU + 1), .slice (some ⟨H.length, 0, none⟩) (pK m) (capU + 1)]) rfl Try.call14 (eqSS_same _ _ _ _ _ _ _ _ _ (TabIs.mk (nG2) nT2 wG2_T2.r) (TabIs.mk (kG2_1) nT1 wG2_T1.r) (by omega) (by omega) (fun x h => by have := bT2 x h; omega) (fun x h => by have := bT1 x h; omega) (rT2.trans rT1.symm))) ?_
  refine AOps.p rfl (p_not rfl) ?_
  refine AOps.p rfl (p_move rfl) ?_
  refine AOps.gp rfl rfl rfl (p_move rfl) ?_
  refine AOps.gp rfl rfl rfl (p_move rfl) ?_
  refine AOps.gp rfl rfl rfl (p_neq rfl rfl) ?_
  refine AOps.p rfl (p_pickF rfl rfl) ?_
  refine AOps.nil ?_
  refine AWp.cond rfl (fun c1 => ?_) (fun c1 => ?_)
  · have d1 := c1
    try simp only [inB, Bool.and_eq_true, Bool.or_eq_true, Bool.and_eq_false_iff, Bool.or_eq_false_iff, Bool.not_eq_true', Bool.not_eq_false', decide_eq_true_eq, decide_eq_false_iff_not, Int.not_le, Int.not_lt] at d1
    exact absurd c1 (by simp)
  · have d1 := c1
    try simp only [inB, Bool.and_eq_true, Bool.or_eq_true, Bool.and_eq_false_iff, Bool.or_eq_false_iff, Bool.not_eq_true', Bool.not_eq_false', decide_eq_true_eq, decide_eq_false_iff_not, Int.not_le, Int.not_lt] at d1
    refine AWp.skip ?_
    refine AWp.seq ?_
    refine AWp.region ?_
    refine AOps.p rfl (p_assign rfl) ?_
    refine AOps.nil ?_
    refine AWp.seq ?_
    refine AWp.region ?_
    refine AOps.p rfl (p_move rfl) ?_
    refine AOps.p rfl (p_move rfl) ?_
    refine AOps.c rfl (o_call (vs := [.slice (some ⟨G1.length, 0, none⟩) (pK m) (capU + 1), .int .i64 (1)]) rfl Try.call15 (markSS_ok _ _ _ _ _ _ _ nT2 (by omega) (by omega) (nG2) wG2_T2 (fun x hx => by have := iT2 x hx; omega) (by omega) rfl)) ?_
    obtain ⟨G3, hG3⟩ : ∃ Gx_ : AHeap, Gx_ = setT (G2) (markT 1 T2) := ⟨_, rfl⟩
    have lG3 : G3.length = G2.length := by rw [hG3, setT_len]
    have kG3_1 : hget G3 (H.length) = AObj.row false (Tab.cells T1) := by rw [hG3]; exact (setT_out _ _ _ (mark_ne2 (fun x hx => by have := iT2 x hx; omega))).trans (kG2_1)
    have mG3_1 : H.length < G3.length := by have := mG2_1; omega
    have kG3_2 : hget G3 (G1.length) = AObj.row false (Tab.cells T2) := by rw [hG3]; exact (setT_out _ _ _ (mark_ne2 (fun x hx => by have := iT2 x hx; omega))).trans (nG2)
    have mG3_2 : G1.length < G3.length := by have := qG2; omega
    have wG3_T1 : TabW (H.length + 1) G3 T1 := by rw [hG3]; exact (wG2_T1).same (fun y hy => setT_out _ _ _ (mark_ne2 (fun x hx => by have h1 := iT2 x hx; have h2 := iT1 y hy; omega)))
    have wG3_mT2 : TabR G3 (markT 1 T2) := by rw [hG3]; exact mark_R wG2_T2
    have holdG3 : ∀ j, j < H.length → hget G3 j = hget H j := fun j hj => by rw [hG3]; exact (setT_out _ _ _ (mark_ne2 (fun x hx => by have := iT2 x hx; omega))).trans (holdG2 j hj)
    refine AOps.heap (H' := G3) hG3.symm ?_
    refine AOps.p rfl (p_assign rfl) ?_
    refine AOps.nil ?_
    refine AWp.seq ?_
    refine AWp.region ?_
    refine AOps.p rfl (p_assign rfl) ?_
    refine AOps.nil ?_
    refine AWp.seq ?_
    refine AWp.region ?_
    refine AOps.p rfl (p_move rfl) ?_
    refine AOps.p rfl (p_move rfl) ?_
    refine AOps.c rfl (o_call (vs := [.slice (some ⟨G1.length, 0, none⟩) (pK m) (capU + 1), .int .i64 (1)]) rfl Try.call16 (heldSS_ok _ _ _ _ _ T2 _ nT2 (by omega) (by omega) (kG3_2) wG3_mT2 (by omega))) ?_
    refine AOps.p rfl (p_assign rfl) ?_
    refine AOps.nil ?_
    refine AWp.seq ?_
    refine AWp.seq ?_
    refine AWp.region ?_
    refine AOps.p rfl (p_move rfl) ?_
    refine AOps.p rfl (p_lss rfl rfl) ?_
    refine AOps.nil ?_
    refine AWp.cond rfl (fun c2 => ?_) (fun c2 => ?_)
    · have d2 := c2
      try simp only [inB, Bool.and_eq_true, Bool.or_eq_true, Bool.and_eq_false_iff, Bool.or_eq_false_iff, Bool.not_eq_true', Bool.not_eq_false', decide_eq_true_eq, decide_eq_false_iff_not, Int.not_le, Int.not_lt] at d2
      exact absurd c2 (by simp <;> omega)
    · have d2 := c2
      try simp only [inB, Bool.and_eq_true, Bool.or_eq_true, Bool.and_eq_false_iff, Bool.or_eq_false_iff, Bool.not_eq_true', Bool.not_eq_false', decide_eq_true_eq, decide_eq_false_iff_not, Int.not_le, Int.not_lt] at d2
      refine AWp.skip ?_
      refine AWp.seq ?_
      refine AWp.seq ?_
      refine AWp.region ?_
      refine AOps.p rfl (p_move rfl) ?_
      refine AOps.p rfl (p_move rfl) ?_
      refine AOps.p rfl (p_neq rfl rfl) ?_
      refine AOps.nil ?_
      refine AWp.cond rfl (fun c3 => ?_) (fun c3 => ?_)
      · have d3 := c3
        try simp only [inB, Bool.and_eq_true, Bool.or_eq_true, Bool.and_eq_false_iff, Bool.or_eq_false_iff, Bool.not_eq_true', Bool.not_eq_false', decide_eq_true_eq, decide_eq_false_iff_not, Int.not_le, Int.not_lt] at d3
        exact absurd c3 (by simp)
      · have d3 := c3
        try simp only [inB, Bool.and_eq_true, Bool.or_eq_true, Bool.and_eq_false_iff, Bool.or_eq_false_iff, Bool.not_eq_true', Bool.not_eq_false', decide_eq_true_eq, decide_eq_false_iff_not, Int.not_le, Int.not_lt] at d3
        refine AWp.skip ?_
        refine AWp.seq ?_
        refine AWp.region ?_
        refine AOps.p rfl (p_move rfl) ?_
        refine AOps.c rfl (o_call (vs := [.int .i64 (m)]) rfl Try.call13 (iPat_ok _ _ hm (i' := G3.length) (H' := G3 ++ placed G3.length (pat m (pK m))) rfl rfl)) ?_
        obtain ⟨G4, hG4⟩ : ∃ Gx_ : AHeap, Gx_ = G3 ++ placed G3.length (pat m (pK m)) := ⟨_, rfl⟩
        have yG4 : List.length (pat m (pK m)) = pK m := pat_len _ _
        have lG4 : G4.length = G3.length + (pK m + 1) := by rw [hG4, List.length_append, placed_len, yG4]
        obtain ⟨T4, hT4⟩ : ∃ Tx_ : Tab, Tx_ = canT (G3.length + 1) (pat m (pK m)) := ⟨_, rfl⟩
        have nG4 : hget G4 (G3.length) = AObj.row false (Tab.cells T4) := by rw [hG4, hT4]; exact placed_get _ _
        have wG4_T4 : TabW (G3.length + 1) G4 T4 := by rw [hG4, hT4]; exact placed_tab _ _
        have iT4 : ∀ x ∈ T4, G3.length + 1 ≤ x.1 ∧ x.1 < G3.length + 1 + pK m := fun x hx => by rw [hT4] at hx; have := canT_ids x hx; omega
        have nT4 : List.length T4 = pK m := by rw [hT4, canT_len]; exact yG4
        have rT4 : Tab.rows T4 = (pat m (pK m)).map (·.2) := by rw [hT4]; exact canT_rows _ _
        have bT4 : ∀ x ∈ T4, x.2.2.length ≤ 14 := by rw [hT4]; exact canT_small (pat_small _ _)
        have tT4 : tot T4 ≤ (pK m) * 14 := by rw [← nT4]; exact tot_bound bT4
        have kG4_1 : hget G4 (H.length) = AObj.row false (Tab.cells T1) := by rw [hG4]; exact (hget_append_lt (by have := mG3_1; omega)).trans (kG3_1)
        have mG4_1 : H.length < G4.length := by have := mG3_1; omega
        have kG4_2 : hget G4 (G1.length) = AObj.row false (Tab.cells T2) := by rw [hG4]; exact (hget_append_lt (by have := mG3_2; omega)).trans (kG3_2)
        have mG4_2 : G1.length < G4.length := by have := mG3_2; omega
        have qG4 : G3.length < G4.length := by omega
        have wG4_T1 : TabW (H.length + 1) G4 T1 := by rw [hG4]; exact (wG3_T1).more
        have wG4_mT2 : TabR G4 (markT 1 T2) := by rw [hG4]; exact (wG3_mT2).more
        have holdG4 : ∀ j, j < H.length → hget G4 j = hget H j := fun j hj => by rw [hG4]; exact (hget_append_lt (by omega)).trans (holdG3 j hj)
        refine AOps.heap (H' := G4) hG4.symm ?_
        refine AOps.p rfl (p_move rfl) ?_
        refine AOps.p rfl (p_extract rfl rfl) ?_
        refine AOps.p rfl (p_extract rfl rfl) ?_
        refine AOps.p rfl (p_assign rfl) ?_
        refine AOps.p rfl (p_assign rfl) ?_
        refine AOps.nil ?_
        refine AWp.seq ?_
        refine AWp.seq ?_
        refine AWp.region ?_
        refine AOps.p rfl (p_move rfl) ?_
        refine AOps.p rfl (p_move rfl) ?_
        refine AOps.c rfl (o_call (vs := [.slice (some ⟨G3.length, 0, none⟩) (pK m) (capU + 1), .slice (some ⟨H.length, 0, none⟩) (pK m) (capU + 1)]) rfl Try.call14 (eqSS_same _ _ _ _ _ _ _ _ _ (TabIs.mk (nG4) nT4 wG4_T4.r) (TabIs.mk (kG4_1) nT1 wG4_T1.r) (by omega) (by omega) (fun x h => by have := bT4 x h; omega) (fun x h => by have := bT1 x h; omega) (rT4.trans rT1.symm))) ?_
        refine AOps.p rfl (p_not rfl) ?_
        refine AOps.p rfl (p_move rfl) ?_
        refine AOps.gp rfl rfl rfl (p_move rfl) ?_
        refine AOps.gp rfl rfl rfl (p_move rfl) ?_
        refine AOps.gp rfl rfl rfl (p_neq rfl rfl) ?_
        refine AOps.p rfl (p_pickF rfl rfl) ?_
        refine AOps.nil ?_
        refine AWp.cond rfl (fun c4 => ?_) (fun c4 => ?_)
        · have d4 := c4
          try simp only [inB, Bool.and_eq_true, Bool.or_eq_true, Bool.and_eq_false_iff, Bool.or_eq_false_iff, Bool.not_eq_true', Bool.not_eq_false', decide_eq_true_eq, decide_eq_false_iff_not, Int.not_le, Int.not_lt] at d4
          exact absurd c4 (by simp)
        · have d4 := c4
          try simp only [inB, Bool.and_eq_true, Bool.or_eq_true, Bool.and_eq_false_iff, Bool.or_eq_false_iff, Bool.not_eq_true', Bool.not_eq_false', decide_eq_true_eq, decide_eq_false_iff_not, Int.not_le, Int.not_lt] at d4
          refine AWp.skip ?_
          refine AWp.seq ?_
          refine AWp.region ?_
          refine AOps.p rfl (p_assign rfl) ?_
          refine AOps.nil ?_
          refine AWp.seq ?_
          refine AWp.region ?_
          refine AOps.p rfl (p_move rfl) ?_
          refine AOps.p rfl (p_move rfl) ?_
          refine AOps.c rfl (o_call (vs := [.slice (some ⟨G1.length, 0, none⟩) (pK m) (capU + 1), .int .i64 (1)]) rfl Try.call16 (heldSS_ok _ _ _ _ _ T2 _ nT2 (by omega) (by omega) (kG4_2) wG4_mT2 (by omega))) ?_
          refine AOps.p rfl (p_assign rfl) ?_
          refine AOps.nil ?_
          refine AWp.seq ?_
          refine AWp.seq ?_
          refine AWp.region ?_
          refine AOps.p rfl (p_move rfl) ?_
          refine AOps.p rfl (p_lss rfl rfl) ?_
          refine AOps.nil ?_
          refine AWp.cond rfl (fun c5 => ?_) (fun c5 => ?_)
          · have d5 := c5
            try simp only [inB, Bool.and_eq_true, Bool.or_eq_true, Bool.and_eq_false_iff, Bool.or_eq_false_iff, Bool.not_eq_true', Bool.not_eq_false', decide_eq_true_eq, decide_eq_false_iff_not, Int.not_le, Int.not_lt] at d5
            exact absurd c5 (by simp <;> omega)
          · have d5 := c5
            try simp only [inB, Bool.and_eq_true, Bool.or_eq_true, Bool.and_eq_false_iff, Bool.or_eq_false_iff, Bool.not_eq_true', Bool.not_eq_false', decide_eq_true_eq, decide_eq_false_iff_not, Int.not_le, Int.not_lt] at d5
            refine AWp.skip ?_
            refine AWp.seq ?_
            refine AWp.seq ?_
            refine AWp.region ?_
            refine AOps.p rfl (p_move rfl) ?_
            refine AOps.p rfl (p_move rfl) ?_
            refine AOps.p rfl (p_neq rfl rfl) ?_
            refine AOps.nil ?_
            refine AWp.cond rfl (fun c6 => ?_) (fun c6 => ?_)
            · have d6 := c6
              try simp only [inB, Bool.and_eq_true, Bool.or_eq_true, Bool.and_eq_false_iff, Bool.or_eq_false_iff, Bool.not_eq_true', Bool.not_eq_false', decide_eq_true_eq, decide_eq_false_iff_not, Int.not_le, Int.not_lt] at d6
              exact absurd c6 (by simp)
            · have d6 := c6
              try simp only [inB, Bool.and_eq_true, Bool.or_eq_true, Bool.and_eq_false_iff, Bool.or_eq_false_iff, Bool.not_eq_true', Bool.not_eq_false', decide_eq_true_eq, decide_eq_false_iff_not, Int.not_le, Int.not_lt] at d6
              refine AWp.skip ?_
              refine AWp.seq ?_
              refine AWp.region ?_
              refine AOps.p rfl (p_assign rfl) ?_
              refine AOps.nil ?_
              refine AWp.ret ?_
              refine ends (.inr rfl) (res1 rfl (rv_tmp rfl)) ?_ (Fin.drop (flatB_ok rfl) holdG4)
              -- return 1: .bool true
              exact rfl

theorem lawPat_no (H : AHeap) (m : Int) (hm : isMod m = false) : ACall Try.prog 5 ([.int .i64 (m)]) H (.bool true) H := by
  refine ACall.body (N := 63) [(0, .int .i64 (m))] Try.func5 rfl rfl rfl rfl ?_
  refine AWp.seq ?_
  refine AWp.region ?_
  refine AOps.p rfl (p_assign rfl) ?_
  refine AOps.nil ?_
  refine AWp.seq ?_
  refine AWp.region ?_
  refine AOps.p rfl (p_move rfl) ?_
  refine AOps.c rfl (o_call (vs := [.int .i64 (m)]) rfl Try.call12 (sPat_no _ _ hm)) ?_
  refine AOps.p rfl (p_move rfl) ?_
  refine AOps.p rfl (p_extract rfl rfl) ?_
  refine AOps.p rfl (p_extract rfl rfl) ?_
  refine AOps.p rfl (p_assign rfl) ?_
  refine AOps.p rfl (p_assign rfl) ?_
  refine AOps.nil ?_
  refine AWp.seq ?_
  refine AWp.region ?_
  refine AOps.p rfl (p_move rfl) ?_
  refine AOps.c rfl (o_call (vs := [.int .i64 (m)]) rfl Try.call13 (iPat_no _ _ hm)) ?_
  refine AOps.p rfl (p_move rfl) ?_
  refine AOps.p rfl (p_extract rfl rfl) ?_
  refine AOps.p rfl (p_extract rfl rfl) ?_
  refine AOps.p rfl (p_assign rfl) ?_
  refine AOps.p rfl (p_assign rfl) ?_
  refine AOps.nil ?_
  refine AWp.seq ?_
  refine AWp.seq ?_
  refine AWp.region ?_
  refine AOps.p rfl (p_move rfl) ?_
  refine AOps.p rfl (p_move rfl) ?_
  refine AOps.c rfl (o_call (vs := [.slice none 0 0, .slice none 0 0]) rfl Try.call14 (eqSS_same _ _ _ _ _ _ _ _ _ (TabIs.nil _ _) (TabIs.nil _ _) (by omega) (by omega) (fun x h => (by cases h)) (fun x h => (by cases h)) rfl)) ?_
  refine AOps.p rfl (p_not rfl) ?_
  refine AOps.p rfl (p_move rfl) ?_
  refine AOps.gp rfl rfl rfl (p_move rfl) ?_
  refine AOps.gp rfl rfl rfl (p_move rfl) ?_
  refine AOps.gp rfl rfl rfl (p_neq rfl rfl) ?_
  refine AOps.p rfl (p_pickF rfl rfl) ?_
  refine AOps.nil ?_
  refine AWp.cond rfl (fun c1 => ?_) (fun c1 => ?_)
  · have d1 := c1
    try simp only [inB, Bool.and_eq_true, Bool.or_eq_true, Bool.and_eq_false_iff, Bool.or_eq_false_iff, Bool.not_eq_true', Bool.not_eq_false', decide_eq_true_eq, decide_eq_false_iff_not, Int.not_le, Int.not_lt] at d1
    exact absurd c1 (by simp)
  · have d1 := c1
    try simp only [inB, Bool.and_eq_true, Bool.or_eq_true, Bool.and_eq_false_iff, Bool.or_eq_false_iff, Bool.not_eq_true', Bool.not_eq_false', decide_eq_true_eq, decide_eq_false_iff_not, Int.not_le, Int.not_lt] at d1
    refine AWp.skip ?_
    refine AWp.seq ?_
    refine AWp.region ?_
    refine AOps.p rfl (p_assign rfl) ?_
    refine AOps.nil ?_
    refine AWp.seq ?_
    refine AWp.region ?_
    refine AOps.p rfl (p_move rfl) ?_
    refine AOps.p rfl (p_move rfl) ?_
    refine AOps.c rfl (o_call (vs := [.slice none 0 0, .int .i64 (1)]) rfl Try.call15 (markSS_nil _ _)) ?_
    refine AOps.p rfl (p_assign rfl) ?_
    refine AOps.nil ?_
    refine AWp.seq ?_
    refine AWp.region ?_
    refine AOps.p rfl (p_assign rfl) ?_
    refine AOps.nil ?_
    refine AWp.seq ?_
    refine AWp.region ?_
    refine AOps.p rfl (p_move rfl) ?_
    refine AOps.p rfl (p_move rfl) ?_
    refine AOps.c rfl (o_call (vs := [.slice none 0 0, .int .i64 (1)]) rfl Try.call16 (heldSS_nil _ _)) ?_
    refine AOps.p rfl (p_assign rfl) ?_
    refine AOps.nil ?_
    refine AWp.seq ?_
    refine AWp.seq ?_
    refine AWp.region ?_
    refine AOps.p rfl (p_move rfl) ?_
    refine AOps.p rfl (p_lss rfl rfl) ?_
    refine AOps.nil ?_
    refine AWp.cond rfl (fun c2 => ?_) (fun c2 => ?_)
    · have d2 := c2
      try simp only [inB, Bool.and_eq_true, Bool.or_eq_true, Bool.and_eq_false_iff, Bool.or_eq_false_iff, Bool.not_eq_true', Bool.not_eq_false', decide_eq_true_eq, decide_eq_false_iff_not, Int.not_le, Int.not_lt] at d2
      exact absurd c2 (by simp <;> omega)
    · have d2 := c2
      try simp only [inB, Bool.and_eq_true, Bool.or_eq_true, Bool.and_eq_false_iff, Bool.or_eq_false_iff, Bool.not_eq_true', Bool.not_eq_false', decide_eq_true_eq, decide_eq_false_iff_not, Int.not_le, Int.not_lt] at d2
      refine AWp.skip ?_
      refine AWp.seq ?_
      refine AWp.seq ?_
      refine AWp.region ?_
      refine AOps.p rfl (p_move rfl) ?_
      refine AOps.p rfl (p_move rfl) ?_
      refine AOps.p rfl (p_neq rfl rfl) ?_
      refine AOps.nil ?_
      refine AWp.cond rfl (fun c3 => ?_) (fun c3 => ?_)
      · have d3 := c3
        try simp only [inB, Bool.and_eq_true, Bool.or_eq_true, Bool.and_eq_false_iff, Bool.or_eq_false_iff, Bool.not_eq_true', Bool.not_eq_false', decide_eq_true_eq, decide_eq_false_iff_not, Int.not_le, Int.not_lt] at d3
        exact absurd c3 (by simp)
      · have d3 := c3
        try simp only [inB, Bool.and_eq_true, Bool.or_eq_true, Bool.and_eq_false_iff, Bool.or_eq_false_iff, Bool.not_eq_true', Bool.not_eq_false', decide_eq_true_eq, decide_eq_false_iff_not, Int.not_le, Int.not_lt] at d3
        refine AWp.skip ?_
        refine AWp.seq ?_
        refine AWp.region ?_
        refine AOps.p rfl (p_move rfl) ?_
        refine AOps.c rfl (o_call (vs := [.int .i64 (m)]) rfl Try.call13 (iPat_no _ _ hm)) ?_
        refine AOps.p rfl (p_move rfl) ?_
        refine AOps.p rfl (p_extract rfl rfl) ?_
        refine AOps.p rfl (p_extract rfl rfl) ?_
        refine AOps.p rfl (p_assign rfl) ?_
        refine AOps.p rfl (p_assign rfl) ?_
        refine AOps.nil ?_
        refine AWp.seq ?_
        refine AWp.seq ?_
        refine AWp.region ?_
        refine AOps.p rfl (p_move rfl) ?_
        refine AOps.p rfl (p_move rfl) ?_
        refine AOps.c rfl (o_call (vs := [.slice none 0 0, .slice none 0 0]) rfl Try.call14 (eqSS_same _ _ _ _ _ _ _ _ _ (TabIs.nil _ _) (TabIs.nil _ _) (by omega) (by omega) (fun x h => (by cases h)) (fun x h => (by cases h)) rfl)) ?_
        refine AOps.p rfl (p_not rfl) ?_
        refine AOps.p rfl (p_move rfl) ?_
        refine AOps.gp rfl rfl rfl (p_move rfl) ?_
        refine AOps.gp rfl rfl rfl (p_move rfl) ?_
        refine AOps.gp rfl rfl rfl (p_neq rfl rfl) ?_
        refine AOps.p rfl (p_pickF rfl rfl) ?_
        refine AOps.nil ?_
        refine AWp.cond rfl (fun c4 => ?_) (fun c4 => ?_)
        · have d4 := c4
          try simp only [inB, Bool.and_eq_true, Bool.or_eq_true, Bool.and_eq_false_iff, Bool.or_eq_false_iff, Bool.not_eq_true', Bool.not_eq_false', decide_eq_true_eq, decide_eq_false_iff_not, Int.not_le, Int.not_lt] at d4
          exact absurd c4 (by simp)
        · have d4 := c4
          try simp only [inB, Bool.and_eq_true, Bool.or_eq_true, Bool.and_eq_false_iff, Bool.or_eq_false_iff, Bool.not_eq_true', Bool.not_eq_false', decide_eq_true_eq, decide_eq_false_iff_not, Int.not_le, Int.not_lt] at d4
          refine AWp.skip ?_
          refine AWp.seq ?_
          refine AWp.region ?_
          refine AOps.p rfl (p_assign rfl) ?_
          refine AOps.nil ?_
          refine AWp.seq ?_
          refine AWp.region ?_
          refine AOps.p rfl (p_move rfl) ?_
          refine AOps.p rfl (p_move rfl) ?_
          refine AOps.c rfl (o_call (vs := [.slice none 0 0, .int .i64 (1)]) rfl Try.call16 (heldSS_nil _ _)) ?_
          refine AOps.p rfl (p_assign rfl) ?_
          refine AOps.nil ?_
          refine AWp.seq ?_
          refine AWp.seq ?_
          refine AWp.region ?_
          refine AOps.p rfl (p_move rfl) ?_
          refine AOps.p rfl (p_lss rfl rfl) ?_
          refine AOps.nil ?_
          refine AWp.cond rfl (fun c5 => ?_) (fun c5 => ?_)
          · have d5 := c5
            try simp only [inB, Bool.and_eq_true, Bool.or_eq_true, Bool.and_eq_false_iff, Bool.or_eq_false_iff, Bool.not_eq_true', Bool.not_eq_false', decide_eq_true_eq, decide_eq_false_iff_not, Int.not_le, Int.not_lt] at d5
            exact absurd c5 (by simp <;> omega)
          · have d5 := c5
            try simp only [inB, Bool.and_eq_true, Bool.or_eq_true, Bool.and_eq_false_iff, Bool.or_eq_false_iff, Bool.not_eq_true', Bool.not_eq_false', decide_eq_true_eq, decide_eq_false_iff_not, Int.not_le, Int.not_lt] at d5
            refine AWp.skip ?_
            refine AWp.seq ?_
            refine AWp.seq ?_
            refine AWp.region ?_
            refine AOps.p rfl (p_move rfl) ?_
            refine AOps.p rfl (p_move rfl) ?_
            refine AOps.p rfl (p_neq rfl rfl) ?_
            refine AOps.nil ?_
            refine AWp.cond rfl (fun c6 => ?_) (fun c6 => ?_)
            · have d6 := c6
              try simp only [inB, Bool.and_eq_true, Bool.or_eq_true, Bool.and_eq_false_iff, Bool.or_eq_false_iff, Bool.not_eq_true', Bool.not_eq_false', decide_eq_true_eq, decide_eq_false_iff_not, Int.not_le, Int.not_lt] at d6
              exact absurd c6 (by simp)
            · have d6 := c6
              try simp only [inB, Bool.and_eq_true, Bool.or_eq_true, Bool.and_eq_false_iff, Bool.or_eq_false_iff, Bool.not_eq_true', Bool.not_eq_false', decide_eq_true_eq, decide_eq_false_iff_not, Int.not_le, Int.not_lt] at d6
              refine AWp.skip ?_
              refine AWp.seq ?_
              refine AWp.region ?_
              refine AOps.p rfl (p_assign rfl) ?_
              refine AOps.nil ?_
              refine AWp.ret ?_
              refine ends (.inr rfl) (res1 rfl (rv_tmp rfl)) ?_ (Fin.refl _ _ _)
              -- return 1: .bool true
              exact rfl

theorem lawPat_ok (H : AHeap) (m : Int) : ACall Try.prog 5 [.int .i64 m] H (.bool true) H := by
  cases h : isMod m with
  | true => exact lawPat_yes H m h
  | false => exact lawPat_no H m h
end Go.Proofs.Ytgageobfalmhpaa