import Derived.Test.YtgageobfalmhpaaW5
namespace Go.Proofs.Ytgageobfalmhpaa
open Go Go.RowKit Am
set_option linter.unusedVariables false
set_option linter.unusedSimpArgs false
def cJ (N r : Nat) : Nat → List Int
  | 0 => ((List.replicate N 0).set (N - 1) (1 - ((r : Nat) : Int) % 2)).set r (((r : Nat) : Int) % 2)
  | j + 1 => ((cJ N r j).set ((r + (j + 1)) % (N - 1)) (((j + 1 : Nat) : Int) % 2)).set ((((r : Nat) : Int) - ((j + 1 : Nat) : Int) + ((N - 1 : Nat) : Int)) % ((N - 1 : Nat) : Int)).toNat (1 - ((j + 1 : Nat) : Int) % 2)
theorem cJ_length (N r : Nat) : ∀ j, (cJ N r j).length = N
  | 0 => by simp [cJ]
  | j + 1 => by simp [cJ, cJ_length N r j]
def cpat (N k : Nat) : List (Nat × List Int) := (List.range k).map fun r => (N, cJ N r (N / 2 - 1))
theorem cpat_succ (N k : Nat) : cpat N (k + 1) = cpat N k ++ [(N, cJ N k (N / 2 - 1))] := by
  unfold cpat; rw [List.range_succ, List.map_append]; rfl
theorem inB_ev {N : Nat} (h : 2 ≤ N ∧ N ≤ 14 ∧ N % 2 = 0) : inB ((N : Nat) : Int) 2 14 = true := by
  unfold inB; rw [decide_eq_true (by omega), decide_eq_true (by omega)]; rfl
def cOk (n : Int) : Bool := inB n 2 14 && !decide (n % 2 = 1)
theorem cOk_no {n : Int} (h : cOk n = false) : (!inB n 2 14 || decide (n % 2 = 1)) = true := by
  unfold cOk at h
  cases h1 : inB n 2 14 <;> cases h2 : decide (n % 2 = 1) <;> simp [h1, h2] at h ⊢
theorem cOk_yes {n : Int} (h : cOk n = true) : ∃ N : Nat, n = (N : Int) ∧ 2 ≤ N ∧ N ≤ 14 ∧ N % 2 = 0 := by
  unfold cOk at h
  rw [Bool.and_eq_true] at h
  have h1 := inB_of h.1
  have h2 : ¬ n % 2 = 1 := by simpa using h.2
  exact ⟨n.toNat, by omega, by omega, by omega, by omega⟩
theorem cpat_len (N k : Nat) : (cpat N k).length = k := by simp [cpat]
theorem cpat_small {N : Nat} (h : N ≤ 14) (k : Nat) : ∀ y ∈ cpat N k, y.2.length ≤ 14 := by
  intro y hy
  obtain ⟨j, _, rfl⟩ := List.mem_map.1 hy
  show (cJ N j _).length ≤ 14
  rw [cJ_length]; exact h

theorem l05Circle_ok (H : AHeap) (N : Nat) (hN : 2 ≤ N ∧ N ≤ 14 ∧ N % 2 = 0) {i' : Nat} {H' : AHeap} (hi : H.length = i') (hH : H ++ placed H.length (cpat N (N - 1)) = H') : ACall Try.prog 35 ([.int .i64 (((N : Nat) : Int))]) H ((.slice (some ⟨i', 0, none⟩) (N - 1) (capU + 1))) H' := by
  subst hi hH
  refine ACall.body (N := 61) [(0, .int .i64 (((N : Nat) : Int)))] Try.func35 rfl rfl rfl rfl ?_
  refine AWp.seq ?_
  refine AWp.region ?_
  refine AOps.p rfl (p_assign rfl) ?_
  refine AOps.nil ?_
  refine AWp.seq ?_
  refine AWp.region ?_
  refine AOps.p rfl (p_move rfl) ?_
  refine AOps.p rfl (p_sub (r := ((N - 1 : Nat) : Int)) rfl rfl (by rw [wr64 (by omega) (by omega)]; omega)) ?_
  refine AOps.c rfl (s_buildTab (i := H.length + 0) (vs := []) (X := []) Try.underlying28 Try.sizeOf34 Try.zeroValue34 rfl rfl (by decide) (by first | rfl | (simp only [Tab.cells, hdr, List.map_cons, List.map_nil, cJ_length]; rfl)) rfl rfl rfl) ?_
  refine AOps.p rfl (p_assign rfl) ?_
  refine AOps.p rfl (p_assign rfl) ?_
  refine AOps.nil ?_
  refine AWp.seq ?_
  refine AWp.seq ?_
  refine AWp.region ?_
  refine AOps.p rfl (p_assign rfl) ?_
  refine AOps.nil ?_
  refine AWp.block ?_
  refine AWp.round (α := Nat × Nat × Nat × Tab × AHeap) (fun (k, o, c, T, G) => [(0, .int .i64 (((N : Nat) : Int))), (2, .slice none 0 0), (3, .int .i64 ((((N - 1) : Nat) : Int))), (4, .slice (some ⟨o, 0, none⟩) (k) (c)), (5, .int .i64 (((k : Nat) : Int)))]) (fun (k, o, c, T, G) => G) (fun (k, o, c, T, G) => (k ≤ (N - 1) ∧ Buf (H.length) G (some ⟨o, 0, none⟩) k c 1 (Tab.cells T) ∧ TabW (H.length) G T ∧ (∀ x ∈ T, x.1 ≠ o) ∧ Tab.caps T = cpat N k ∧ T.length = k ∧ c = (if k = 0 then 0 else capU + 1)) ∧ (∀ j, j < H.length → hget G j = hget H j) ∧ H.length ≤ G.length) (fun (k, o, c, T, G) => (N - 1) - k) (0, H.length + 0, 0, [], H ++ [AObj.row false (Tab.cells ([]))]) ⟨⟨Nat.zero_le _, Buf.new (by omega) (own_row rfl) rfl (.inr ⟨rfl, by decide⟩), TabW.nil _ _, (fun x hx => (by cases hx)), rfl, rfl, rfl⟩, (fun j hj => hget_append_lt hj), (by simp only [List.length_append, List.length_cons, List.length_nil]; omega)⟩ (Sub.cons' rfl rfl (Sub.cons' rfl rfl (Sub.cons' rfl rfl (Sub.cons' rfl rfl (Sub.cons' rfl rfl (Sub.nil _)))))) rfl ?_
  rintro ⟨k, o, c, T, G⟩ ⟨hInv0, holdG, hbG⟩
  obtain ⟨hk, hB, hT, hno, hcaps, hTl, hcap⟩ := hInv0
  have fB := (Buf.row hB).1
  have lB := row_lt fB
  have hbi := (Buf.row hB).2.1
  refine AWp.sub (t' := [(0, .int .i64 (((N : Nat) : Int))), (2, .slice none 0 0), (3, .int .i64 ((((N - 1) : Nat) : Int))), (4, .slice (some ⟨o, 0, none⟩) (k) (c)), (5, .int .i64 (((k : Nat) : Int)))]) (Sub.refl _) ?_
  refine AWp.heap (H' := G) rfl ?_
  refine AWp.seq ?_
  refine AWp.seq ?_
  refine AWp.region ?_
  refine AOps.p rfl (p_move rfl) ?_
  refine AOps.p rfl (p_move rfl) ?_
  refine AOps.p rfl (p_lss rfl rfl) ?_
  refine AOps.nil ?_
  refine AWp.cond rfl (fun c1 => ?_) (fun c1 => ?_)
  · have d1 := c1
    try simp only [inB, Bool.and_eq_true, Bool.or_eq_true, Bool.and_eq_false_iff, Bool.or_eq_false_iff, Bool.not_eq_true', Bool.not_eq_false', decide_eq_true_eq, decide_eq_false_iff_not, Int.not_le, Int.not_lt] at d1
    refine AWp.skip ?_
    refine AWp.seq ?_
    refine AWp.block ?_
    refine AWp.seq ?_
    refine AWp.region ?_
    refine AOps.p rfl (p_move rfl) ?_
    refine AOps.c rfl (s_makeInts (i := G.length + 0) (n := N) (c := N) (by_ := 8) Try.underlying34 Try.typeInfo2 Try.sizeOf2 Try.zeroValue2 rfl rfl rfl rfl (by omega) (by omega) (by omega) rfl rfl) ?_
    refine AOps.p rfl (p_assign rfl) ?_
    refine AOps.nil ?_
    refine AWp.seq ?_
    refine AWp.region ?_
    refine AOps.p rfl (p_move rfl) ?_
    refine AOps.p rfl (p_move rfl) ?_
    refine AOps.p rfl (p_move rfl) ?_
    refine AOps.p rfl (p_rem rfl rfl (by omega) (Int.tmod_eq_emod_of_nonneg (by omega))) ?_
    refine AOps.p rfl (p_sub rfl rfl (wr64 (by omega) (by omega))) ?_
    refine AOps.p rfl (s_indexSl (q := (N - 1)) Try.underlying34 Try.sizeOf2 rfl rfl (by omega) (by omega) (by omega)) ?_
    refine AOps.s (s_store (H' := G ++ [AObj.row false (ints ((List.replicate N 0).set (N - 1) (1 - (((k : Nat) : Int) % 2))))]) Try.sizeOf2 rfl rfl rfl (own_row rfl) (by rw [ints_length]; first | omega | (simp only [List.length_set, List.length_replicate]; omega)) ((set_own _ _ _ _).trans (by rw [ints_set] <;> rfl))) ?_
    refine AOps.nil ?_
    refine AWp.seq ?_
    refine AWp.region ?_
    refine AOps.p rfl (p_move rfl) ?_
    refine AOps.p rfl (p_move rfl) ?_
    refine AOps.p rfl (p_move rfl) ?_
    refine AOps.p rfl (p_rem rfl rfl (by omega) (Int.tmod_eq_emod_of_nonneg (by omega))) ?_
    refine AOps.p rfl (s_indexSl (q := k) Try.underlying34 Try.sizeOf2 rfl rfl (by omega) (by omega) (by omega)) ?_
    refine AOps.s (s_store (H' := G ++ [AObj.row false (ints (((List.replicate N 0).set (N - 1) (1 - (((k : Nat) : Int) % 2))).set k (((k : Nat) : Int) % 2)))]) Try.sizeOf2 rfl rfl rfl (own_row rfl) (by rw [ints_length]; first | omega | (simp only [List.length_set, List.length_replicate]; omega)) ((set_own _ _ _ _).trans (by rw [ints_set] <;> rfl))) ?_
    refine AOps.nil ?_
    refine AWp.seq ?_
    refine AWp.seq ?_
    refine AWp.region ?_
    refine AOps.p rfl (p_assign rfl) ?_
    refine AOps.nil ?_
    refine AWp.block ?_
    refine AWp.round (α := Nat) (fun j => [(0, .int .i64 (((N : Nat) : Int))), (2, .slice none 0 0), (3, .int .i64 ((((N - 1) : Nat) : Int))), (4, .slice (some ⟨o, 0, none⟩) (k) (c)), (5, .int .i64 (((k : Nat) : Int))), (6, .slice (some ⟨G.length + 0, 0, none⟩) (N) (N)), (7, .int .i64 (((j + 1 : Nat) : Int))), (13, .bool (decide (((k : Nat) : Int) < (((N - 1) : Nat) : Int))))]) (fun j => G ++ [AObj.row false (ints (cJ N k j))]) (fun j => j + 1 ≤ N / 2) (fun j => N / 2 - j) 0 (by omega) (Sub.cons' rfl rfl (Sub.cons' rfl rfl (Sub.cons' rfl rfl (Sub.cons' rfl rfl (Sub.cons' rfl rfl (Sub.cons' rfl rfl (Sub.cons' rfl rfl (Sub.cons' rfl rfl (Sub.nil _))))))))) rfl ?_
    intro j hInv1
    have hcj := cJ_length N k j
    have hm1 : 0 < N - 1 := by omega
    have hm2 := Nat.mod_lt (k + (j + 1)) hm1
    have hm3 := Int.emod_nonneg ((k : Int) - ((j + 1 : Nat) : Int) + ((N - 1 : Nat) : Int)) (b := ((N - 1 : Nat) : Int)) (by omega)
    have hm4 := Int.emod_lt_of_pos ((k : Int) - ((j + 1 : Nat) : Int) + ((N - 1 : Nat) : Int)) (b := ((N - 1 : Nat) : Int)) (by omega)
    have hm5 : ((k : Int) + ((j + 1 : Nat) : Int)) % ((N - 1 : Nat) : Int) = (((k + (j + 1)) % (N - 1) : Nat) : Int) := by rw [← Int.natCast_add, ← Int.natCast_emod]
    refine AWp.sub (t' := [(0, .int .i64 (((N : Nat) : Int))), (2, .slice none 0 0), (3, .int .i64 ((((N - 1) : Nat) : Int))), (4, .slice (some ⟨o, 0, none⟩) (k) (c)), (5, .int .i64 (((k : Nat) : Int))), (6, .slice (some ⟨G.length + 0, 0, none⟩) (N) (N)), (7, .int .i64 (((j + 1 : Nat) : Int))), (13, .bool (decide (((k : Nat) : Int) < (((N - 1) : Nat) : Int))))]) (Sub.refl _) ?_
    refine AWp.heap (H' := G ++ [AObj.row false (ints (cJ N k j))]) rfl ?_
    refine AWp.seq ?_
    refine AWp.seq ?_
    refine AWp.region ?_
    refine AOps.p rfl (p_move rfl) ?_
    refine AOps.p rfl (p_move rfl) ?_
    refine AOps.p rfl (p_quo rfl rfl (by omega) (wrdiv (by omega) (by omega) (by omega))) ?_
    refine AOps.p rfl (p_lss rfl rfl) ?_
    refine AOps.nil ?_
    refine AWp.cond rfl (fun c2 => ?_) (fun c2 => ?_)
    · have d2 := c2
      try simp only [inB, Bool.and_eq_true, Bool.or_eq_true, Bool.and_eq_false_iff, Bool.or_eq_false_iff, Bool.not_eq_true', Bool.not_eq_false', decide_eq_true_eq, decide_eq_false_iff_not, Int.not_le, Int.not_lt] at d2
      refine AWp.skip ?_
      refine AWp.seq ?_
      refine AWp.block ?_
      refine AWp.seq ?_
      refine AWp.region ?_
      refine AOps.p rfl (p_move rfl) ?_
      refine AOps.p rfl (p_move rfl) ?_
      refine AOps.p rfl (p_move rfl) ?_
      refine AOps.p rfl (p_add rfl rfl (wr64 (by omega) (by omega))) ?_
      refine AOps.p rfl (p_move rfl) ?_
      refine AOps.p rfl (p_rem rfl rfl (by omega) (Int.tmod_eq_emod_of_nonneg (by omega))) ?_
      refine AOps.p rfl (p_move rfl) ?_
      refine AOps.p rfl (p_rem rfl rfl (by omega) (Int.tmod_eq_emod_of_nonneg (by omega))) ?_
      refine AOps.p rfl (s_indexSl (q := (k + (j + 1)) % (N - 1)) Try.underlying34 Try.sizeOf2 rfl rfl (by omega) (by omega) (by omega)) ?_
      refine AOps.s (s_store (H' := G ++ [AObj.row false (ints ((cJ N k j).set ((k + (j + 1)) % (N - 1)) (((j + 1 : Nat) : Int) % 2)))]) Try.sizeOf2 rfl rfl rfl (own_row rfl) (by rw [ints_length]; first | omega | (simp only [List.length_set, List.length_replicate]; omega)) ((set_own _ _ _ _).trans (by rw [ints_set] <;> rfl))) ?_
      refine AOps.nil ?_
      refine AWp.region ?_
      refine AOps.p rfl (p_move rfl) ?_
      refine AOps.p rfl (p_move rfl) ?_
      refine AOps.p rfl (p_move rfl) ?_
      refine AOps.p rfl (p_sub rfl rfl (wr64 (by omega) (by omega))) ?_
      refine AOps.p rfl (p_move rfl) ?_
      refine AOps.p rfl (p_add rfl rfl (wr64 (by omega) (by omega))) ?_
      refine AOps.p rfl (p_move rfl) ?_
      refine AOps.p rfl (p_rem rfl rfl (by omega) (Int.tmod_eq_emod_of_nonneg (by omega))) ?_
      refine AOps.p rfl (p_move rfl) ?_
      refine AOps.p rfl (p_rem rfl rfl (by omega) (Int.tmod_eq_emod_of_nonneg (by omega))) ?_
      refine AOps.p rfl (p_sub rfl rfl (wr64 (by omega) (by omega))) ?_
      refine AOps.p rfl (s_indexSl (q := ((((k : Nat) : Int) - ((j + 1 : Nat) : Int) + (((N - 1) : Nat) : Int)) % (((N - 1) : Nat) : Int)).toNat) Try.underlying34 Try.sizeOf2 rfl rfl (by omega) (by omega) (by omega)) ?_
      refine AOps.s (s_store (H' := G ++ [AObj.row false (ints (((cJ N k j).set ((k + (j + 1)) % (N - 1)) (((j + 1 : Nat) : Int) % 2)).set (((((k : Nat) : Int) - ((j + 1 : Nat) : Int) + (((N - 1) : Nat) : Int)) % (((N - 1) : Nat) : Int)).toNat) (1 - (((j + 1 : Nat) : Int) % 2))))]) Try.sizeOf2 rfl rfl rfl (own_row rfl) (by rw [ints_length]; first | omega | (simp only [List.length_set, List.length_replicate]; omega)) ((set_own _ _ _ _).trans (by rw [ints_set] <;> rfl))) ?_
      refine AOps.nil ?_
      refine AWp.region ?_
      refine AOps.p rfl (p_move rfl) ?_
      refine AOps.p rfl (p_add rfl rfl (wr64 (by omega) (by omega))) ?_
      refine AOps.p rfl (p_assign rfl) ?_
      refine AOps.nil ?_
      exact ⟨j + 1, by omega, by omega, Sub.cons' rfl rfl (Sub.cons' rfl rfl (Sub.cons' rfl rfl (Sub.cons' rfl rfl (Sub.cons' rfl rfl (Sub.cons' rfl rfl (Sub.cons' rfl (by first | rfl | (exact int_eq (by omega))) (Sub.cons' rfl rfl (Sub.nil _)))))))), rfl⟩
    · have d2 := c2
      try simp only [inB, Bool.and_eq_true, Bool.or_eq_true, Bool.and_eq_false_iff, Bool.or_eq_false_iff, Bool.not_eq_true', Bool.not_eq_false', decide_eq_true_eq, decide_eq_false_iff_not, Int.not_le, Int.not_lt] at d2
      refine AWp.exit ?_
      refine AWp.region ?_
      refine AOps.p rfl (p_move rfl) ?_
      refine AOps.p rfl (p_move rfl) ?_
      refine AOps.c rfl (s_buildTab (i := G.length + 1) (vs := [(0, .slice (some ⟨G.length + 0, 0, none⟩) (N) (N))]) (X := [(G.length + 0, N, (cJ N k j))]) Try.underlying28 Try.sizeOf34 Try.zeroValue34 rfl rfl (by decide) (by first | rfl | (simp only [Tab.cells, hdr, List.map_cons, List.map_nil, cJ_length]; rfl)) rfl (by exact List.length_append) (by exact List.append_assoc _ _ _)) ?_
      refine AOps.c rfl (s_append (i' := (G ++ [AObj.row false (ints (cJ N k j)), AObj.row false (Tab.cells ([(G.length + 0, N, (cJ N k j))]))]).length) (by_ := 24) (us := Tab.cells T) (vs := Tab.cells ([(G.length + 0, N, (cJ N k j))])) (k := 1) Try.underlying28 Try.underlying28 Try.typeInfo34 Try.sizeOf34 Try.zeroValue34 rfl rfl rfl rfl rfl (Buf.more hB) (own_row rfl) (by rw [Tab.cells_len]; first | rfl | omega) (by omega) tab_one ⟨by omega, by decide⟩ rfl (congrArg (fun c => kill _ _ ++ [AObj.row false c]) (Tab.cells_app _ _).symm)) ?_
      obtain ⟨G1, hG1⟩ : ∃ Gx_ : AHeap, Gx_ = kill (some ⟨o, 0, none⟩) (G ++ [AObj.row false (ints (cJ N k j)), AObj.row false (Tab.cells ([(G.length + 0, N, (cJ N k j))]))]) ++ [AObj.row false (Tab.cells (T ++ [(G.length + 0, N, (cJ N k j))]))] := ⟨_, rfl⟩
      have lG1 : G1.length = G.length + 2 + 1 := by rw [hG1, append_len]; rw [List.length_append]; rfl
      have oG1 : Buf (H.length) (G ++ [AObj.row false (ints (cJ N k j)), AObj.row false (Tab.cells ([(G.length + 0, N, (cJ N k j))]))]) (some ⟨o, 0, none⟩) (k) (c) 1 (Tab.cells T) := (Buf.more hB)
      have kG1_2 : hget G1 (G.length + 0) = AObj.row false (ints (cJ N k j)) := by rw [hG1]; exact (append_get2 (by simp only [List.length_append, List.length_cons, List.length_nil]; omega) (by first | exact Buf.below oG1 (by omega) | (intro x e; cases e; dsimp only; omega))).trans (own_row rfl)
      have mG1_2 : G.length + 0 < G1.length := by omega
      have holdG1 : ∀ j, j < H.length → hget G1 j = hget H j := fun j hj => by rw [hG1]; exact (append_get2 (by simp only [List.length_append, List.length_cons, List.length_nil]; omega) (Buf.below oG1 (by omega))).trans ((fun j hj => (hget_append_lt (by omega)).trans (holdG j hj)) j hj)
      have nG1 : hget G1 ((G ++ [AObj.row false (ints (cJ N k j)), AObj.row false (Tab.cells ([(G.length + 0, N, (cJ N k j))]))]).length) = AObj.row false (Tab.cells (T ++ [(G.length + 0, N, (cJ N k j))])) := by rw [hG1]; exact append_new
      have eG1 : (G ++ [AObj.row false (ints (cJ N k j)), AObj.row false (Tab.cells ([(G.length + 0, N, (cJ N k j))]))]).length = G.length + 2 := List.length_append
      have qG1 : (G ++ [AObj.row false (ints (cJ N k j)), AObj.row false (Tab.cells ([(G.length + 0, N, (cJ N k j))]))]).length < G1.length := by omega
      have bG1 : Buf (H.length) G1 (some ⟨(G ++ [AObj.row false (ints (cJ N k j)), AObj.row false (Tab.cells ([(G.length + 0, N, (cJ N k j))]))]).length, 0, none⟩) (k + 1) (capU + 1) 1 (Tab.cells (T ++ [(G.length + 0, N, (cJ N k j))])) := Buf.new (by omega) nG1 (by rw [Tab.cells_len, List.length_append, hTl]; simp) (.inl rfl)
      refine AOps.heap (H' := G1) hG1.symm ?_
      refine AOps.p rfl (p_assign rfl) ?_
      refine AOps.nil ?_
      refine AWp.region ?_
      refine AOps.p rfl (p_move rfl) ?_
      refine AOps.p rfl (p_add rfl rfl (wr64 (by omega) (by omega))) ?_
      refine AOps.p rfl (p_assign rfl) ?_
      refine AOps.nil ?_
      have hT2 : TabW (H.length) G1 (T ++ [(G.length + 0, N, cJ N k j)]) := TabW.add (by rw [hG1]; exact TabW.appended hT (fun a e x hx => by cases e; exact hno x hx)) (by omega) kG1_2 (fun x hx => by have := hT.r.lt hx; omega)
      have hno2 : ∀ x ∈ T ++ [(G.length + 0, N, cJ N k j)], x.1 ≠ (G ++ [AObj.row false (ints (cJ N k j)), AObj.row false (Tab.cells ([(G.length + 0, N, (cJ N k j))]))]).length := fun x hx => by
        rcases List.mem_append.1 hx with hx | hx
        · have := hT.r.lt hx; omega
        · simp only [List.mem_cons, List.not_mem_nil, or_false] at hx; subst hx; show G.length + 0 ≠ (G ++ [AObj.row false (ints (cJ N k j)), AObj.row false (Tab.cells ([(G.length + 0, N, (cJ N k j))]))]).length; omega
      have hcaps2 : Tab.caps (T ++ [(G.length + 0, N, cJ N k j)]) = cpat N (k + 1) := by have hj : j = N / 2 - 1 := (by omega); unfold Tab.caps at *; rw [List.map_append, hcaps, cpat_succ, ← hj]; rfl
      exact ⟨(k + 1, (G ++ [AObj.row false (ints (cJ N k j)), AObj.row false (Tab.cells ([(G.length + 0, N, (cJ N k j))]))]).length, capU + 1, T ++ [(G.length + 0, N, cJ N k j)], G1), ⟨⟨by omega, bG1, hT2, hno2, hcaps2, by rw [List.length_append, hTl]; rfl, (if_neg (by omega)).symm⟩, holdG1, (by omega)⟩, by show (N - 1) - (k + 1) < (N - 1) - k; omega, Sub.cons' rfl rfl (Sub.cons' rfl rfl (Sub.cons' rfl rfl (Sub.cons' rfl (by first | rfl | (exact int_eq (by omega))) (Sub.cons' rfl (by first | rfl | (exact int_eq (by omega))) (Sub.nil _))))), rfl⟩
  · have d1 := c1
    try simp only [inB, Bool.and_eq_true, Bool.or_eq_true, Bool.and_eq_false_iff, Bool.or_eq_false_iff, Bool.not_eq_true', Bool.not_eq_false', decide_eq_true_eq, decide_eq_false_iff_not, Int.not_le, Int.not_lt] at d1
    refine AWp.exit ?_
    refine AWp.seq ?_
    refine AWp.region ?_
    refine AOps.p rfl (p_move rfl) ?_
    refine AOps.p rfl (p_assign rfl) ?_
    refine AOps.nil ?_
    refine AWp.ret ?_
    refine ends2 (.inr rfl) (res1 rfl (rv_tmp rfl)) ?_
    -- return 1: .slice (some ⟨o, 0, none⟩) (k) (c)
    have e : k = N - 1 := by omega
    rw [e] at hcaps hcap
    rw [hcap, if_neg (by omega), e]
    exact Fin.tab (o := o) (T := T) holdG (by omega) fB hT hno (by rw [hcaps]) ren_tab

set_option maxHeartbeats 1000000 in
theorem iCirc_ok (H : AHeap) (N : Nat) (hN : 2 ≤ N ∧ N ≤ 14 ∧ N % 2 = 0) {i' : Nat} {H' : AHeap} (hi : H.length = i') (hH : H ++ placed H.length (cpat N (N - 1)) = H') : ACall Try.prog 18 ([.int .i64 (((N : Nat) : Int))]) H (.tuple #[.slice (some ⟨i', 0, none⟩) (N - 1) (capU + 1), .int .i64 0]) H' := by
  subst hi hH
  refine ACall.body (N := 71) [(0, .int .i64 (((N : Nat) : Int)))] Try.func18 rfl rfl rfl rfl ?_
  refine AWp.seq ?_
  refine AWp.region ?_
  refine AOps.p rfl (p_assign rfl) ?_
  refine AOps.p rfl (p_assign rfl) ?_
  refine AOps.nil ?_
  refine AWp.seq ?_
  refine AWp.cut (fun t' H' => H = H' ∧ Sub [(0, .int .i64 (((N : Nat) : Int))), (2, .slice none 0 0), (3, .int .i64 (0)), (16, .bool ((!(inB ((N : Nat) : Int) 2 14)) || (decide (((N : Nat) : Int) % 2 = 1))))] t') ?_ ?_
  · refine AWp.region ?_
    refine AOps.p rfl (p_move rfl) ?_
    refine AOps.c rfl (o_call (vs := [.int .i64 (((N : Nat) : Int)), .int .i64 (2), .int .i64 (14)]) rfl Try.call30 (between_ok _ _ _ _)) ?_
    refine AOps.p rfl (p_not rfl) ?_
    refine AOps.p rfl (p_move rfl) ?_
    refine AOps.cases (d := 12) rfl (fun c1 => ?_) (fun c1 => ?_)
    · have d1 := c1
      try simp only [inB, Bool.and_eq_true, Bool.or_eq_true, Bool.and_eq_false_iff, Bool.or_eq_false_iff, Bool.not_eq_true', Bool.not_eq_false', decide_eq_true_eq, decide_eq_false_iff_not, Int.not_le, Int.not_lt] at d1
      refine AOps.gn rfl rfl rfl ?_
      refine AOps.gn rfl rfl rfl ?_
      refine AOps.gn rfl rfl rfl ?_
      refine AOps.p rfl (p_pickT rfl rfl) ?_
      refine AOps.nil ?_
      exact ⟨rfl, Sub.cons' rfl rfl (Sub.cons' rfl rfl (Sub.cons' rfl rfl (Sub.cons' rfl (bool_eq (by simp only [c1, Bool.true_and, Bool.false_and, Bool.and_true, Bool.and_false, Bool.true_or, Bool.false_or, Bool.or_true, Bool.or_false, Bool.not_true, Bool.not_false, cond_true, cond_false])) (Sub.nil _))))⟩
    · have d1 := c1
      try simp only [inB, Bool.and_eq_true, Bool.or_eq_true, Bool.and_eq_false_iff, Bool.or_eq_false_iff, Bool.not_eq_true', Bool.not_eq_false', decide_eq_true_eq, decide_eq_false_iff_not, Int.not_le, Int.not_lt] at d1
      refine AOps.gp rfl rfl rfl (p_move rfl) ?_
      refine AOps.gp rfl rfl rfl (p_rem rfl rfl (by omega) (Int.tmod_eq_emod_of_nonneg (by omega))) ?_
      refine AOps.gp rfl rfl rfl (p_eql rfl rfl) ?_
      refine AOps.p rfl (p_pickF rfl rfl) ?_
      refine AOps.nil ?_
      exact ⟨rfl, Sub.cons' rfl rfl (Sub.cons' rfl rfl (Sub.cons' rfl rfl (Sub.cons' rfl (bool_eq (by simp only [c1, Bool.true_and, Bool.false_and, Bool.and_true, Bool.and_false, Bool.true_or, Bool.false_or, Bool.or_true, Bool.or_false, Bool.not_true, Bool.not_false, cond_true, cond_false])) (Sub.nil _))))⟩
  · rintro t' _ ⟨rfl, hsub⟩
    refine AWp.sub hsub ?_
    refine AWp.cond rfl (fun c2 => ?_) (fun c2 => ?_)
    · have d2 := c2
      try simp only [inB, Bool.and_eq_true, Bool.or_eq_true, Bool.and_eq_false_iff, Bool.or_eq_false_iff, Bool.not_eq_true', Bool.not_eq_false', decide_eq_true_eq, decide_eq_false_iff_not, Int.not_le, Int.not_lt] at d2
      exact absurd c2 (by rw [inB_ev hN]; simp; omega)
    · have d2 := c2
      try simp only [inB, Bool.and_eq_true, Bool.or_eq_true, Bool.and_eq_false_iff, Bool.or_eq_false_iff, Bool.not_eq_true', Bool.not_eq_false', decide_eq_true_eq, decide_eq_false_iff_not, Int.not_le, Int.not_lt] at d2
      refine AWp.skip ?_
      refine AWp.seq ?_
      refine AWp.region ?_
      refine AOps.c rfl (s_buildTab (i := H.length + 0) (vs := []) (X := []) Try.underlying28 Try.sizeOf34 Try.zeroValue34 rfl rfl (by decide) (by first | rfl | (simp only [Tab.cells, hdr, List.map_cons, List.map_nil, cJ_length]; rfl)) rfl rfl rfl) ?_
      refine AOps.p rfl (p_move rfl) ?_
      refine AOps.p rfl (p_sub (r := ((N - 1 : Nat) : Int)) rfl rfl (by rw [wr64 (by omega) (by omega)]; omega)) ?_
      refine AOps.p rfl (p_assign rfl) ?_
      refine AOps.p rfl (p_assign rfl) ?_
      refine AOps.nil ?_
      refine AWp.seq ?_
      refine AWp.seq ?_
      refine AWp.region ?_
      refine AOps.p rfl (p_move rfl) ?_
      refine AOps.p rfl (p_move rfl) ?_
      refine AOps.nil ?_
      refine AWp.block ?_
      refine AWp.round (α := Nat × Nat × Nat × Tab × AHeap) (fun (k, o, c, T, G) => [(0, .int .i64 (((N : Nat) : Int))), (2, .slice none 0 0), (3, .int .i64 (0)), (4, .slice (some ⟨o, 0, none⟩) (k) (c)), (5, .int .i64 ((((N - 1) : Nat) : Int))), (16, .bool ((!(inB ((N : Nat) : Int) 2 14)) || (decide (((N : Nat) : Int) % 2 = 1)))), (20, .int .i64 ((((N - 1) : Nat) : Int))), (21, .int .i64 (((k : Nat) : Int)))]) (fun (k, o, c, T, G) => G) (fun (k, o, c, T, G) => (k ≤ (N - 1) ∧ Buf (H.length) G (some ⟨o, 0, none⟩) k c 1 (Tab.cells T) ∧ TabW (H.length) G T ∧ (∀ x ∈ T, x.1 ≠ o) ∧ Tab.caps T = cpat N k ∧ T.length = k ∧ c = (if k = 0 then 0 else capU + 1)) ∧ (∀ j, j < H.length → hget G j = hget H j) ∧ H.length ≤ G.length) (fun (k, o, c, T, G) => (N - 1) - k) (0, H.length + 0, 0, [], H ++ [AObj.row false (Tab.cells ([]))]) ⟨⟨Nat.zero_le _, Buf.new (by omega) (own_row rfl) rfl (.inr ⟨rfl, by decide⟩), TabW.nil _ _, (fun x hx => (by cases hx)), rfl, rfl, rfl⟩, (fun j hj => hget_append_lt hj), (by simp only [List.length_append, List.length_cons, List.length_nil]; omega)⟩ (Sub.cons' rfl rfl (Sub.cons' rfl rfl (Sub.cons' rfl rfl (Sub.cons' rfl rfl (Sub.cons' rfl rfl (Sub.cons' rfl rfl (Sub.cons' rfl rfl (Sub.cons' rfl rfl (Sub.nil _))))))))) rfl ?_
      rintro ⟨k, o, c, T, G⟩ ⟨hInv0, holdG, hbG⟩
      obtain ⟨hk, hB, hT, hno, hcaps, hTl, hcap⟩ := hInv0
      have fB := (Buf.row hB).1
      have lB := row_lt fB
      have hbi := (Buf.row hB).2.1
      refine AWp.sub (t' := [(0, .int .i64 (((N : Nat) : Int))), (2, .slice none 0 0), (3, .int .i64 (0)), (4, .slice (some ⟨o, 0, none⟩) (k) (c)), (5, .int .i64 ((((N - 1) : Nat) : Int))), (16, .bool ((!(inB ((N : Nat) : Int) 2 14)) || (decide (((N : Nat) : Int) % 2 = 1)))), (20, .int .i64 ((((N - 1) : Nat) : Int))), (21, .int .i64 (((k : Nat) : Int)))]) (Sub.refl _) ?_
      refine AWp.heap (H' := G) rfl ?_
      refine AWp.seq ?_
      refine AWp.region ?_
      refine AOps.p rfl (p_lss rfl rfl) ?_
      refine AOps.nil ?_
      refine AWp.seq ?_
      refine AWp.cond rfl (fun c3 => ?_) (fun c3 => ?_)
      · have d3 := c3
        try simp only [inB, Bool.and_eq_true, Bool.or_eq_true, Bool.and_eq_false_iff, Bool.or_eq_false_iff, Bool.not_eq_true', Bool.not_eq_false', decide_eq_true_eq, decide_eq_false_iff_not, Int.not_le, Int.not_lt] at d3
        refine AWp.skip ?_
        refine AWp.seq ?_
        refine AWp.block ?_
        refine AWp.seq ?_
        refine AWp.region ?_
        refine AOps.p rfl (p_move rfl) ?_
        refine AOps.p rfl (p_assign rfl) ?_
        refine AOps.nil ?_
        refine AWp.seq ?_
        refine AWp.region ?_
        refine AOps.p rfl (p_move rfl) ?_
        refine AOps.c rfl (s_makeInts (i := G.length + 0) (n := N) (c := N) (by_ := 8) Try.underlying34 Try.typeInfo2 Try.sizeOf2 Try.zeroValue2 rfl rfl rfl rfl (by omega) (by omega) (by omega) rfl rfl) ?_
        refine AOps.p rfl (p_assign rfl) ?_
        refine AOps.nil ?_
        refine AWp.seq ?_
        refine AWp.region ?_
        refine AOps.p rfl (p_move rfl) ?_
        refine AOps.p rfl (p_move rfl) ?_
        refine AOps.p rfl (p_sub (r := ((N - 1 : Nat) : Int)) rfl rfl (by rw [wr64 (by omega) (by omega)]; omega)) ?_
        refine AOps.p rfl (p_move rfl) ?_
        refine AOps.p rfl (p_move rfl) ?_
        refine AOps.p rfl (p_move rfl) ?_
        refine AOps.p rfl (p_rem rfl rfl (by omega) (Int.tmod_eq_emod_of_nonneg (by omega))) ?_
        refine AOps.p rfl (p_sub rfl rfl (wr64 (by omega) (by omega))) ?_
        refine AOps.p rfl (p_move rfl) ?_
        refine AOps.p rfl (p_rem rfl rfl (by omega) (Int.tmod_eq_emod_of_nonneg (by omega))) ?_
        refine AOps.p rfl (s_indexSl (q := (N - 1)) Try.underlying34 Try.sizeOf2 rfl rfl (by omega) (by omega) (by omega)) ?_
        refine AOps.s (s_store (H' := G ++ [AObj.row false (ints ((List.replicate N 0).set (N - 1) (1 - (((k : Nat) : Int) % 2))))]) Try.sizeOf2 rfl rfl rfl (own_row rfl) (by rw [ints_length]; first | omega | (simp only [List.length_set, List.length_replicate]; omega)) ((set_own _ _ _ _).trans (by rw [ints_set] <;> rfl))) ?_
        refine AOps.p rfl (s_indexSl (q := k) Try.underlying34 Try.sizeOf2 rfl rfl (by omega) (by omega) (by omega)) ?_
        refine AOps.s (s_store (H' := G ++ [AObj.row false (ints (((List.replicate N 0).set (N - 1) (1 - (((k : Nat) : Int) % 2))).set k (((k : Nat) : Int) % 2)))]) Try.sizeOf2 rfl rfl rfl (own_row rfl) (by rw [ints_length]; first | omega | (simp only [List.length_set, List.length_replicate]; omega)) ((set_own _ _ _ _).trans (by rw [ints_set] <;> rfl))) ?_
        refine AOps.nil ?_
        refine AWp.seq ?_
        refine AWp.seq ?_
        refine AWp.region ?_
        refine AOps.p rfl (p_assign rfl) ?_
        refine AOps.nil ?_
        refine AWp.block ?_
        refine AWp.round (α := Nat) (fun j => [(0, .int .i64 (((N : Nat) : Int))), (2, .slice none 0 0), (3, .int .i64 (0)), (4, .slice (some ⟨o, 0, none⟩) (k) (c)), (5, .int .i64 ((((N - 1) : Nat) : Int))), (6, .int .i64 (((k : Nat) : Int))), (7, .slice (some ⟨G.length + 0, 0, none⟩) (N) (N)), (8, .int .i64 (((j + 1 : Nat) : Int))), (16, .bool ((!(inB ((N : Nat) : Int) 2 14)) || (decide (((N : Nat) : Int) % 2 = 1)))), (20, .int .i64 ((((N - 1) : Nat) : Int))), (21, .int .i64 (((k : Nat) : Int))), (22, .bool (decide (((k : Nat) : Int) < (((N - 1) : Nat) : Int))))]) (fun j => G ++ [AObj.row false (ints (cJ N k j))]) (fun j => j + 1 ≤ N / 2) (fun j => N / 2 - j) 0 (by omega) (Sub.cons' rfl rfl (Sub.cons' rfl rfl (Sub.cons' rfl rfl (Sub.cons' rfl rfl (Sub.cons' rfl rfl (Sub.cons' rfl rfl (Sub.cons' rfl rfl (Sub.cons' rfl rfl (Sub.cons' rfl rfl (Sub.cons' rfl rfl (Sub.cons' rfl rfl (Sub.cons' rfl rfl (Sub.nil _))))))))))))) rfl ?_
        intro j hInv1
        have hcj := cJ_length N k j
        have hm1 : 0 < N - 1 := by omega
        have hm2 := Nat.mod_lt (k + (j + 1)) hm1
        have hm3 := Int.emod_nonneg ((k : Int) - ((j + 1 : Nat) : Int) + ((N - 1 : Nat) : Int)) (b := ((N - 1 : Nat) : Int)) (by omega)
        have hm4 := Int.emod_lt_of_pos ((k : Int) - ((j + 1 : Nat) : Int) + ((N - 1 : Nat) : Int)) (b := ((N - 1 : Nat) : Int)) (by omega)
        have hm5 : ((k : Int) + ((j + 1 : Nat) : Int)) % ((N - 1 : Nat) : Int) = (((k + (j + 1)) % (N - 1) : Nat) : Int) := by rw [← Int.natCast_add, ← Int.natCast_emod]
        refine AWp.sub (t' := [(0, .int .i64 (((N : Nat) : Int))), (2, .slice none 0 0), (3, .int .i64 (0)), (4, .slice (some ⟨o, 0, none⟩) (k) (c)), (5, .int .i64 ((((N - 1) : Nat) : Int))), (6, .int .i64 (((k : Nat) : Int))), (7, .slice (some ⟨G.length + 0, 0, none⟩) (N) (N)), (8, .int .i64 (((j + 1 : Nat) : Int))), (16, .bool ((!(inB ((N : Nat) : Int) 2 14)) || (decide (((N : Nat) : Int) % 2 = 1)))), (20, .int .i64 ((((N - 1) : Nat) : Int))), (21, .int .i64 (((k : Nat) : Int))), (22, .bool (decide (((k : Nat) : Int) < (((N - 1) : Nat) : Int))))]) (Sub.refl _) ?_
        refine AWp.heap (H' := G ++ [AObj.row false (ints (cJ N k j))]) rfl ?_
        refine AWp.seq ?_
        refine AWp.seq ?_
        refine AWp.region ?_
        refine AOps.p rfl (p_move rfl) ?_
        refine AOps.p rfl (p_mul rfl rfl (wr64 (by omega) (by omega))) ?_
        refine AOps.p rfl (p_move rfl) ?_
        refine AOps.p rfl (p_lss rfl rfl) ?_
        refine AOps.nil ?_
        refine AWp.cond rfl (fun c4 => ?_) (fun c4 => ?_)
        · have d4 := c4
          try simp only [inB, Bool.and_eq_true, Bool.or_eq_true, Bool.and_eq_false_iff, Bool.or_eq_false_iff, Bool.not_eq_true', Bool.not_eq_false', decide_eq_true_eq, decide_eq_false_iff_not, Int.not_le, Int.not_lt] at d4
          refine AWp.skip ?_
          refine AWp.seq ?_
          refine AWp.block ?_
          refine AWp.cutQ (fun t' H' => G ++ [AObj.row false (ints (((cJ N k j).set ((k + (j + 1)) % (N - 1)) (((j + 1 : Nat) : Int) % 2)).set (((((k : Nat) : Int) - ((j + 1 : Nat) : Int) + (((N - 1) : Nat) : Int)) % (((N - 1) : Nat) : Int)).toNat) (1 - (((j + 1 : Nat) : Int) % 2))))] = H' ∧ Sub [(0, .int .i64 (((N : Nat) : Int))), (2, .slice none 0 0), (3, .int .i64 (0)), (4, .slice (some ⟨o, 0, none⟩) (k) (c)), (5, .int .i64 ((((N - 1) : Nat) : Int))), (6, .int .i64 (((k : Nat) : Int))), (7, .slice (some ⟨G.length + 0, 0, none⟩) (N) (N)), (8, .int .i64 (((j + 1 : Nat) : Int))), (16, .bool ((!(inB ((N : Nat) : Int) 2 14)) || (decide (((N : Nat) : Int) % 2 = 1)))), (20, .int .i64 ((((N - 1) : Nat) : Int))), (21, .int .i64 (((k : Nat) : Int))), (22, .bool (decide (((k : Nat) : Int) < (((N - 1) : Nat) : Int)))), (41, .bool (decide (2 * ((j + 1 : Nat) : Int) < (((N - 1) : Nat) : Int))))] t') ?_ ?_
          · refine DTr.start mix ?_
            refine DTr.p rfl rfl (p_move rfl) ?_
            refine DTr.p rfl rfl (p_move rfl) ?_
            refine DTr.p rfl rfl (p_move rfl) ?_
            refine DTr.p rfl rfl (p_add rfl rfl (wr64 (by omega) (by omega))) ?_
            refine DTr.p rfl rfl (p_move rfl) ?_
            refine DTr.p rfl rfl (p_rem rfl rfl (by omega) (Int.tmod_eq_emod_of_nonneg (by omega))) ?_
            refine DTr.p rfl rfl (p_move rfl) ?_
            refine DTr.p rfl rfl (p_move rfl) ?_
            refine DTr.p rfl rfl (p_move rfl) ?_
            refine DTr.p rfl rfl (p_sub rfl rfl (wr64 (by omega) (by omega))) ?_
            refine DTr.p rfl rfl (p_move rfl) ?_
            refine DTr.p rfl rfl (p_add rfl rfl (wr64 (by omega) (by omega))) ?_
            refine DTr.p rfl rfl (p_move rfl) ?_
            refine DTr.p rfl rfl (p_rem rfl rfl (by omega) (Int.tmod_eq_emod_of_nonneg (by omega))) ?_
            refine DTr.p rfl rfl (p_move rfl) ?_
            refine DTr.p rfl rfl (p_rem rfl rfl (by omega) (Int.tmod_eq_emod_of_nonneg (by omega))) ?_
            refine DTr.p rfl rfl (p_move rfl) ?_
            refine DTr.p rfl rfl (p_rem rfl rfl (by omega) (Int.tmod_eq_emod_of_nonneg (by omega))) ?_
            refine DTr.p rfl rfl (p_sub rfl rfl (wr64 (by omega) (by omega))) ?_
            refine DTr.p rfl rfl (s_indexSl (q := (k + (j + 1)) % (N - 1)) Try.underlying34 Try.sizeOf2 rfl rfl (by omega) (by omega) (by omega)) ?_
            refine DTr.s rfl (s_store (H' := G ++ [AObj.row false (ints ((cJ N k j).set ((k + (j + 1)) % (N - 1)) (((j + 1 : Nat) : Int) % 2)))]) Try.sizeOf2 rfl rfl rfl (own_row rfl) (by rw [ints_length]; first | omega | (simp only [List.length_set, List.length_replicate]; omega)) ((set_own _ _ _ _).trans (by rw [ints_set] <;> rfl))) (by simp only [List.length_append, List.length_cons, List.length_nil]; omega) ?_
            refine DTr.p rfl rfl (s_indexSl (q := ((((k : Nat) : Int) - ((j + 1 : Nat) : Int) + (((N - 1) : Nat) : Int)) % (((N - 1) : Nat) : Int)).toNat) Try.underlying34 Try.sizeOf2 rfl rfl (by omega) (by omega) (by omega)) ?_
            refine DTr.s rfl (s_store (H' := G ++ [AObj.row false (ints (((cJ N k j).set ((k + (j + 1)) % (N - 1)) (((j + 1 : Nat) : Int) % 2)).set (((((k : Nat) : Int) - ((j + 1 : Nat) : Int) + (((N - 1) : Nat) : Int)) % (((N - 1) : Nat) : Int)).toNat) (1 - (((j + 1 : Nat) : Int) % 2))))]) Try.sizeOf2 rfl rfl rfl (own_row rfl) (by rw [ints_length]; first | omega | (simp only [List.length_set, List.length_replicate]; omega)) ((set_own _ _ _ _).trans (by rw [ints_set] <;> rfl))) (by simp only [List.length_append, List.length_cons, List.length_nil]; omega) ?_
            exact DTr.nil ⟨by kernel_rfl, dyn_ord (by kernel_rfl), rfl, Sub.cons' rfl rfl (Sub.cons' rfl rfl (Sub.cons' rfl rfl (Sub.cons' rfl rfl (Sub.cons' rfl rfl (Sub.cons' rfl rfl (Sub.cons' rfl rfl (Sub.cons' rfl rfl (Sub.cons' rfl rfl (Sub.cons' rfl rfl (Sub.cons' rfl rfl (Sub.cons' rfl rfl (Sub.cons' rfl rfl (Sub.nil _)))))))))))))⟩
          · rintro t' _ ⟨rfl, hsub⟩
            refine AWp.sub hsub ?_
            refine AWp.region ?_
            refine AOps.p rfl (p_move rfl) ?_
            refine AOps.p rfl (p_add rfl rfl (wr64 (by omega) (by omega))) ?_
            refine AOps.p rfl (p_assign rfl) ?_
            refine AOps.nil ?_
            exact ⟨j + 1, by omega, by omega, Sub.cons' rfl rfl (Sub.cons' rfl rfl (Sub.cons' rfl rfl (Sub.cons' rfl rfl (Sub.cons' rfl rfl (Sub.cons' rfl rfl (Sub.cons' rfl rfl (Sub.cons' rfl (by first | rfl | (exact int_eq (by omega))) (Sub.cons' rfl rfl (Sub.cons' rfl rfl (Sub.cons' rfl rfl (Sub.cons' rfl rfl (Sub.nil _)))))))))))), rfl⟩
        · have d4 := c4
          try simp only [inB, Bool.and_eq_true, Bool.or_eq_true, Bool.and_eq_false_iff, Bool.or_eq_false_iff, Bool.not_eq_true', Bool.not_eq_false', decide_eq_true_eq, decide_eq_false_iff_not, Int.not_le, Int.not_lt] at d4
          refine AWp.exit ?_
          refine AWp.region ?_
          refine AOps.p rfl (p_move rfl) ?_
          refine AOps.p rfl (p_move rfl) ?_
          refine AOps.c rfl (s_buildTab (i := G.length + 1) (vs := [(0, .slice (some ⟨G.length + 0, 0, none⟩) (N) (N))]) (X := [(G.length + 0, N, (cJ N k j))]) Try.underlying28 Try.sizeOf34 Try.zeroValue34 rfl rfl (by decide) (by first | rfl | (simp only [Tab.cells, hdr, List.map_cons, List.map_nil, cJ_length]; rfl)) rfl (by exact List.length_append) (by exact List.append_assoc _ _ _)) ?_
          refine AOps.c rfl (s_append (i' := (G ++ [AObj.row false (ints (cJ N k j)), AObj.row false (Tab.cells ([(G.length + 0, N, (cJ N k j))]))]).length) (by_ := 24) (us := Tab.cells T) (vs := Tab.cells ([(G.length + 0, N, (cJ N k j))])) (k := 1) Try.underlying28 Try.underlying28 Try.typeInfo34 Try.sizeOf34 Try.zeroValue34 rfl rfl rfl rfl rfl (Buf.more hB) (own_row rfl) (by rw [Tab.cells_len]; first | rfl | omega) (by omega) tab_one ⟨by omega, by decide⟩ rfl (congrArg (fun c => kill _ _ ++ [AObj.row false c]) (Tab.cells_app _ _).symm)) ?_
          obtain ⟨G1, hG1⟩ : ∃ Gx_ : AHeap, Gx_ = kill (some ⟨o, 0, none⟩) (G ++ [AObj.row false (ints (cJ N k j)), AObj.row false (Tab.cells ([(G.length + 0, N, (cJ N k j))]))]) ++ [AObj.row false (Tab.cells (T ++ [(G.length + 0, N, (cJ N k j))]))] := ⟨_, rfl⟩
          have lG1 : G1.length = G.length + 2 + 1 := by rw [hG1, append_len]; rw [List.length_append]; rfl
          have oG1 : Buf (H.length) (G ++ [AObj.row false (ints (cJ N k j)), AObj.row false (Tab.cells ([(G.length + 0, N, (cJ N k j))]))]) (some ⟨o, 0, none⟩) (k) (c) 1 (Tab.cells T) := (Buf.more hB)
          have kG1_2 : hget G1 (G.length + 0) = AObj.row false (ints (cJ N k j)) := by rw [hG1]; exact (append_get2 (by simp only [List.length_append, List.length_cons, List.length_nil]; omega) (by first | exact Buf.below oG1 (by omega) | (intro x e; cases e; dsimp only; omega))).trans (own_row rfl)
          have mG1_2 : G.length + 0 < G1.length := by omega
          have holdG1 : ∀ j, j < H.length → hget G1 j = hget H j := fun j hj => by rw [hG1]; exact (append_get2 (by simp only [List.length_append, List.length_cons, List.length_nil]; omega) (Buf.below oG1 (by omega))).trans ((fun j hj => (hget_append_lt (by omega)).trans (holdG j hj)) j hj)
          have nG1 : hget G1 ((G ++ [AObj.row false (ints (cJ N k j)), AObj.row false (Tab.cells ([(G.length + 0, N, (cJ N k j))]))]).length) = AObj.row false (Tab.cells (T ++ [(G.length + 0, N, (cJ N k j))])) := by rw [hG1]; exact append_new
          have eG1 : (G ++ [AObj.row false (ints (cJ N k j)), AObj.row false (Tab.cells ([(G.length + 0, N, (cJ N k j))]))]).length = G.length + 2 := List.length_append
          have qG1 : (G ++ [AObj.row false (ints (cJ N k j)), AObj.row false (Tab.cells ([(G.length + 0, N, (cJ N k j))]))]).length < G1.length := by omega
          have bG1 : Buf (H.length) G1 (some ⟨(G ++ [AObj.row false (ints (cJ N k j)), AObj.row false (Tab.cells ([(G.length + 0, N, (cJ N k j))]))]).length, 0, none⟩) (k + 1) (capU + 1) 1 (Tab.cells (T ++ [(G.length + 0, N, (cJ N k j))])) := Buf.new (by omega) nG1 (by rw [Tab.cells_len, List.length_append, hTl]; simp) (.inl rfl)
          refine AOps.heap (H' := G1) hG1.symm ?_
          refine AOps.p rfl (p_assign rfl) ?_
          refine AOps.nil ?_
          refine AWp.region ?_
          refine AOps.p rfl (p_add rfl rfl (wr64 (by omega) (by omega))) ?_
          refine AOps.p rfl (p_move rfl) ?_
          refine AOps.nil ?_
          have hT2 : TabW (H.length) G1 (T ++ [(G.length + 0, N, cJ N k j)]) := TabW.add (by rw [hG1]; exact TabW.appended hT (fun a e x hx => by cases e; exact hno x hx)) (by omega) kG1_2 (fun x hx => by have := hT.r.lt hx; omega)
          have hno2 : ∀ x ∈ T ++ [(G.length + 0, N, cJ N k j)], x.1 ≠ (G ++ [AObj.row false (ints (cJ N k j)), AObj.row false (Tab.cells ([(G.length + 0, N, (cJ N k j))]))]).length := fun x hx => by
            rcases List.mem_append.1 hx with hx | hx
            · have := hT.r.lt hx; omega
            · simp only [List.mem_cons, List.not_mem_nil, or_false] at hx; subst hx; show G.length + 0 ≠ (G ++ [AObj.row false (ints (cJ N k j)), AObj.row false (Tab.cells ([(G.length + 0, N, (cJ N k j))]))]).length; omega
          have hcaps2 : Tab.caps (T ++ [(G.length + 0, N, cJ N k j)]) = cpat N (k + 1) := by have hj : j = N / 2 - 1 := (by omega); unfold Tab.caps at *; rw [List.map_append, hcaps, cpat_succ, ← hj]; rfl
          exact ⟨(k + 1, (G ++ [AObj.row false (ints (cJ N k j)), AObj.row false (Tab.cells ([(G.length + 0, N, (cJ N k j))]))]).length, capU + 1, T ++ [(G.length + 0, N, cJ N k j)], G1), ⟨⟨by omega, bG1, hT2, hno2, hcaps2, by rw [List.length_append, hTl]; rfl, (if_neg (by omega)).symm⟩, holdG1, (by omega)⟩, by show (N - 1) - (k + 1) < (N - 1) - k; omega, Sub.cons' rfl rfl (Sub.cons' rfl rfl (Sub.cons' rfl rfl (Sub.cons' rfl (by first | rfl | (exact int_eq (by omega))) (Sub.cons' rfl rfl (Sub.cons' rfl rfl (Sub.cons' rfl rfl (Sub.cons' rfl (by first | rfl | (exact int_eq (by omega))) (Sub.nil _)))))))), rfl⟩
      · have d3 := c3
        try simp only [inB, Bool.and_eq_true, Bool.or_eq_true, Bool.and_eq_false_iff, Bool.or_eq_false_iff, Bool.not_eq_true', Bool.not_eq_false', decide_eq_true_eq, decide_eq_false_iff_not, Int.not_le, Int.not_lt] at d3
        refine AWp.exit ?_
        refine AWp.seq ?_
        refine AWp.region ?_
        refine AOps.p rfl (p_move rfl) ?_
        refine AOps.p rfl (p_assign rfl) ?_
        refine AOps.p rfl (p_assign rfl) ?_
        refine AOps.nil ?_
        refine AWp.ret ?_
        refine ends2 (.inr rfl) (res2 rfl (rv_tmp rfl) (rv_tmp rfl)) ?_
        -- return 1: .tuple #[.slice (some ⟨o, 0, none⟩) (k) (c), .int .i64 (0)]
        have e : k = N - 1 := by omega
        rw [e] at hcaps hcap
        rw [hcap, if_neg (by omega), e]
        exact Fin.tab (o := o) (T := T) holdG (by omega) fB hT hno (by rw [hcaps]) (ren_tup2 ren_tab (.flat _ (.int _ _)))

theorem sCirc_ok (H : AHeap) (N : Nat) (hN : 2 ≤ N ∧ N ≤ 14 ∧ N % 2 = 0) {i' : Nat} {H' : AHeap} (hi : H.length = i') (hH : H ++ placed H.length (cpat N (N - 1)) = H') : ACall Try.prog 17 ([.int .i64 (((N : Nat) : Int))]) H (.tuple #[.slice (some ⟨i', 0, none⟩) (N - 1) (capU + 1), .int .i64 0]) H' := by
  subst hi hH
  refine ACall.body (N := 14) [(0, .int .i64 (((N : Nat) : Int)))] Try.func17 rfl rfl rfl rfl ?_
  refine AWp.seq ?_
  refine AWp.region ?_
  refine AOps.p rfl (p_assign rfl) ?_
  refine AOps.p rfl (p_assign rfl) ?_
  refine AOps.nil ?_
  refine AWp.seq ?_
  refine AWp.cut (fun t' H' => H = H' ∧ Sub [(0, .int .i64 (((N : Nat) : Int))), (2, .slice none 0 0), (3, .int .i64 (0)), (11, .bool ((!(inB ((N : Nat) : Int) 2 14)) || (decide (((N : Nat) : Int) % 2 = 1))))] t') ?_ ?_
  · refine AWp.region ?_
    refine AOps.p rfl (p_move rfl) ?_
    refine AOps.c rfl (o_call (vs := [.int .i64 (((N : Nat) : Int)), .int .i64 (2), .int .i64 (14)]) rfl Try.call34 (l01In_ok _ _ _ _)) ?_
    refine AOps.p rfl (p_not rfl) ?_
    refine AOps.p rfl (p_move rfl) ?_
    refine AOps.cases (d := 7) rfl (fun c1 => ?_) (fun c1 => ?_)
    · have d1 := c1
      try simp only [inB, Bool.and_eq_true, Bool.or_eq_true, Bool.and_eq_false_iff, Bool.or_eq_false_iff, Bool.not_eq_true', Bool.not_eq_false', decide_eq_true_eq, decide_eq_false_iff_not, Int.not_le, Int.not_lt] at d1
      refine AOps.gn rfl rfl rfl ?_
      refine AOps.gn rfl rfl rfl ?_
      refine AOps.gn rfl rfl rfl ?_
      refine AOps.p rfl (p_pickT rfl rfl) ?_
      refine AOps.nil ?_
      exact ⟨rfl, Sub.cons' rfl rfl (Sub.cons' rfl rfl (Sub.cons' rfl rfl (Sub.cons' rfl (bool_eq (by simp only [c1, Bool.true_and, Bool.false_and, Bool.and_true, Bool.and_false, Bool.true_or, Bool.false_or, Bool.or_true, Bool.or_false, Bool.not_true, Bool.not_false, cond_true, cond_false])) (Sub.nil _))))⟩
    · have d1 := c1
      try simp only [inB, Bool.and_eq_true, Bool.or_eq_true, Bool.and_eq_false_iff, Bool.or_eq_false_iff, Bool.not_eq_true', Bool.not_eq_false', decide_eq_true_eq, decide_eq_false_iff_not, Int.not_le, Int.not_lt] at d1
      refine AOps.gp rfl rfl rfl (p_move rfl) ?_
      refine AOps.gp rfl rfl rfl (p_rem rfl rfl (by omega) (Int.tmod_eq_emod_of_nonneg (by omega))) ?_
      refine AOps.gp rfl rfl rfl (p_eql rfl rfl) ?_
      refine AOps.p rfl (p_pickF rfl rfl) ?_
      refine AOps.nil ?_
      exact ⟨rfl, Sub.cons' rfl rfl (Sub.cons' rfl rfl (Sub.cons' rfl rfl (Sub.cons' rfl (bool_eq (by simp only [c1, Bool.true_and, Bool.false_and, Bool.and_true, Bool.and_false, Bool.true_or, Bool.false_or, Bool.or_true, Bool.or_false, Bool.not_true, Bool.not_false, cond_true, cond_false])) (Sub.nil _))))⟩
  · rintro t' _ ⟨rfl, hsub⟩
    refine AWp.sub hsub ?_
    refine AWp.cond rfl (fun c2 => ?_) (fun c2 => ?_)
    · have d2 := c2
      try simp only [inB, Bool.and_eq_true, Bool.or_eq_true, Bool.and_eq_false_iff, Bool.or_eq_false_iff, Bool.not_eq_true', Bool.not_eq_false', decide_eq_true_eq, decide_eq_false_iff_not, Int.not_le, Int.not_lt] at d2
      exact absurd c2 (by rw [inB_ev hN]; simp; omega)
    · have d2 := c2
      try simp only [inB, Bool.and_eq_true, Bool.or_eq_true, Bool.and_eq_false_iff, Bool.or_eq_false_iff, Bool.not_eq_true', Bool.not_eq_false', decide_eq_true_eq, decide_eq_false_iff_not, Int.not_le, Int.not_lt] at d2
      refine AWp.skip ?_
      refine AWp.seq ?_
      refine AWp.region ?_
      refine AOps.p rfl (p_move rfl) ?_
      refine AOps.c rfl (o_call (vs := [.int .i64 (((N : Nat) : Int))]) rfl Try.call35 (l05Circle_ok _ _ hN rfl rfl)) ?_
      refine AOps.p rfl (p_assign rfl) ?_
      refine AOps.p rfl (p_assign rfl) ?_
      refine AOps.nil ?_
      refine AWp.ret ?_
      refine ends2 (.inr rfl) (res2 rfl (rv_tmp rfl) (rv_tmp rfl)) ?_
      -- return 1: .tuple #[.slice (some ⟨H.length, 0, none⟩) (N - 1) (capU + 1), .int .i64 (0)]
      exact Fin.refl _ _ _

theorem sCirc_no (H : AHeap) (n : Int) (hn : cOk n = false) : ACall Try.prog 17 ([.int .i64 (n)]) H (.tuple #[.slice none 0 0, .int .i64 2]) H := by
  refine ACall.body (N := 14) [(0, .int .i64 (n))] Try.func17 rfl rfl rfl rfl ?_
  refine AWp.seq ?_
  refine AWp.region ?_
  refine AOps.p rfl (p_assign rfl) ?_
  refine AOps.p rfl (p_assign rfl) ?_
  refine AOps.nil ?_
  refine AWp.seq ?_
  refine AWp.cut (fun t' H' => H = H' ∧ Sub [(0, .int .i64 (n)), (2, .slice none 0 0), (3, .int .i64 (0)), (11, .bool ((!(inB n 2 14)) || (decide (n % 2 = 1))))] t') ?_ ?_
  · refine AWp.region ?_
    refine AOps.p rfl (p_move rfl) ?_
    refine AOps.c rfl (o_call (vs := [.int .i64 (n), .int .i64 (2), .int .i64 (14)]) rfl Try.call34 (l01In_ok _ _ _ _)) ?_
    refine AOps.p rfl (p_not rfl) ?_
    refine AOps.p rfl (p_move rfl) ?_
    refine AOps.cases (d := 7) rfl (fun c1 => ?_) (fun c1 => ?_)
    · have d1 := c1
      try simp only [inB, Bool.and_eq_true, Bool.or_eq_true, Bool.and_eq_false_iff, Bool.or_eq_false_iff, Bool.not_eq_true', Bool.not_eq_false', decide_eq_true_eq, decide_eq_false_iff_not, Int.not_le, Int.not_lt] at d1
      refine AOps.gn rfl rfl rfl ?_
      refine AOps.gn rfl rfl rfl ?_
      refine AOps.gn rfl rfl rfl ?_
      refine AOps.p rfl (p_pickT rfl rfl) ?_
      refine AOps.nil ?_
      exact ⟨rfl, Sub.cons' rfl rfl (Sub.cons' rfl rfl (Sub.cons' rfl rfl (Sub.cons' rfl (bool_eq (by simp only [c1, Bool.true_and, Bool.false_and, Bool.and_true, Bool.and_false, Bool.true_or, Bool.false_or, Bool.or_true, Bool.or_false, Bool.not_true, Bool.not_false, cond_true, cond_false])) (Sub.nil _))))⟩
    · have d1 := c1
      try simp only [inB, Bool.and_eq_true, Bool.or_eq_true, Bool.and_eq_false_iff, Bool.or_eq_false_iff, Bool.not_eq_true', Bool.not_eq_false', decide_eq_true_eq, decide_eq_false_iff_not, Int.not_le, Int.not_lt] at d1
      have hm3 := inB_of (by simpa using c1)
      refine AOps.gp rfl rfl rfl (p_move rfl) ?_
      refine AOps.gp rfl rfl rfl (p_rem rfl rfl (by omega) (Int.tmod_eq_emod_of_nonneg (by omega))) ?_
      refine AOps.gp rfl rfl rfl (p_eql rfl rfl) ?_
      refine AOps.p rfl (p_pickF rfl rfl) ?_
      refine AOps.nil ?_
      exact ⟨rfl, Sub.cons' rfl rfl (Sub.cons' rfl rfl (Sub.cons' rfl rfl (Sub.cons' rfl (bool_eq (by simp only [c1, Bool.true_and, Bool.false_and, Bool.and_true, Bool.and_false, Bool.true_or, Bool.false_or, Bool.or_true, Bool.or_false, Bool.not_true, Bool.not_false, cond_true, cond_false])) (Sub.nil _))))⟩
  · rintro t' _ ⟨rfl, hsub⟩
    refine AWp.sub hsub ?_
    refine AWp.cond rfl (fun c2 => ?_) (fun c2 => ?_)
    · have d2 := c2
      try simp only [inB, Bool.and_eq_true, Bool.or_eq_true, Bool.and_eq_false_iff, Bool.or_eq_false_iff, Bool.not_eq_true', Bool.not_eq_false', decide_eq_true_eq, decide_eq_false_iff_not, Int.not_le, Int.not_lt] at d2
      refine AWp.seq ?_
      refine AWp.region ?_
      refine AOps.p rfl (p_assign rfl) ?_
      refine AOps.p rfl (p_assign rfl) ?_
      refine AOps.nil ?_
      refine AWp.ret ?_
      refine ends (.inr rfl) (res2 rfl (rv_tmp rfl) (rv_tmp rfl)) ?_ (Fin.refl _ _ _)
      -- return 1: .tuple #[.slice none 0 0, .int .i64 (2)]
      exact rfl
    · have d2 := c2
      try simp only [inB, Bool.and_eq_true, Bool.or_eq_true, Bool.and_eq_false_iff, Bool.or_eq_false_iff, Bool.not_eq_true', Bool.not_eq_false', decide_eq_true_eq, decide_eq_false_iff_not, Int.not_le, Int.not_lt] at d2
      exact absurd c2 (by rw [cOk_no hn]; simp)

theorem iCirc_no (H : AHeap) (n : Int) (hn : cOk n = false) : ACall Try.prog 18 ([.int .i64 (n)]) H (.tuple #[.slice none 0 0, .int .i64 2]) H := by
  refine ACall.body (N := 71) [(0, .int .i64 (n))] Try.func18 rfl rfl rfl rfl ?_
  refine AWp.seq ?_
  refine AWp.region ?_
  refine AOps.p rfl (p_assign rfl) ?_
  refine AOps.p rfl (p_assign rfl) ?_
  refine AOps.nil ?_
  refine AWp.seq ?_
  refine AWp.cut (fun t' H' => H = H' ∧ Sub [(0, .int .i64 (n)), (2, .slice none 0 0), (3, .int .i64 (0)), (16, .bool ((!(inB n 2 14)) || (decide (n % 2 = 1))))] t') ?_ ?_
  · refine AWp.region ?_
    refine AOps.p rfl (p_move rfl) ?_
    refine AOps.c rfl (o_call (vs := [.int .i64 (n), .int .i64 (2), .int .i64 (14)]) rfl Try.call30 (between_ok _ _ _ _)) ?_
    refine AOps.p rfl (p_not rfl) ?_
    refine AOps.p rfl (p_move rfl) ?_
    refine AOps.cases (d := 12) rfl (fun c1 => ?_) (fun c1 => ?_)
    · have d1 := c1
      try simp only [inB, Bool.and_eq_true, Bool.or_eq_true, Bool.and_eq_false_iff, Bool.or_eq_false_iff, Bool.not_eq_true', Bool.not_eq_false', decide_eq_true_eq, decide_eq_false_iff_not, Int.not_le, Int.not_lt] at d1
      refine AOps.gn rfl rfl rfl ?_
      refine AOps.gn rfl rfl rfl ?_
      refine AOps.gn rfl rfl rfl ?_
      refine AOps.p rfl (p_pickT rfl rfl) ?_
      refine AOps.nil ?_
      exact ⟨rfl, Sub.cons' rfl rfl (Sub.cons' rfl rfl (Sub.cons' rfl rfl (Sub.cons' rfl (bool_eq (by simp only [c1, Bool.true_and, Bool.false_and, Bool.and_true, Bool.and_false, Bool.true_or, Bool.false_or, Bool.or_true, Bool.or_false, Bool.not_true, Bool.not_false, cond_true, cond_false])) (Sub.nil _))))⟩
    · have d1 := c1
      try simp only [inB, Bool.and_eq_true, Bool.or_eq_true, Bool.and_eq_false_iff, Bool.or_eq_false_iff, Bool.not_eq_true', Bool.not_eq_false', decide_eq_true_eq, decide_eq_false_iff_not, Int.not_le, Int.not_lt] at d1
      have hm3 := inB_of (by simpa using c1)
      refine AOps.gp rfl rfl rfl (p_move rfl) ?_
      refine AOps.gp rfl rfl rfl (p_rem rfl rfl (by omega) (Int.tmod_eq_emod_of_nonneg (by omega))) ?_
      refine AOps.gp rfl rfl rfl (p_eql rfl rfl) ?_
      refine AOps.p rfl (p_pickF rfl rfl) ?_
      refine AOps.nil ?_
      exact ⟨rfl, Sub.cons' rfl rfl (Sub.cons' rfl rfl (Sub.cons' rfl rfl (Sub.cons' rfl (bool_eq (by simp only [c1, Bool.true_and, Bool.false_and, Bool.and_true, Bool.and_false, Bool.true_or, Bool.false_or, Bool.or_true, Bool.or_false, Bool.not_true, Bool.not_false, cond_true, cond_false])) (Sub.nil _))))⟩
  · rintro t' _ ⟨rfl, hsub⟩
    refine AWp.sub hsub ?_
    refine AWp.cond rfl (fun c2 => ?_) (fun c2 => ?_)
    · have d2 := c2
      try simp only [inB, Bool.and_eq_true, Bool.or_eq_true, Bool.and_eq_false_iff, Bool.or_eq_false_iff, Bool.not_eq_true', Bool.not_eq_false', decide_eq_true_eq, decide_eq_false_iff_not, Int.not_le, Int.not_lt] at d2
      refine AWp.seq ?_
      refine AWp.region ?_
      refine AOps.p rfl (p_assign rfl) ?_
      refine AOps.p rfl (p_assign rfl) ?_
      refine AOps.nil ?_
      refine AWp.ret ?_
      refine ends (.inr rfl) (res2 rfl (rv_tmp rfl) (rv_tmp rfl)) ?_ (Fin.refl _ _ _)
      -- return 1: .tuple #[.slice none 0 0, .int .i64 (2)]
      exact rfl
    · have d2 := c2
      try simp only [inB, Bool.and_eq_true, Bool.or_eq_true, Bool.and_eq_false_iff, Bool.or_eq_false_iff, Bool.not_eq_true', Bool.not_eq_false', decide_eq_true_eq, decide_eq_false_iff_not, Int.not_le, Int.not_lt] at d2
      exact absurd c2 (by rw [cOk_no hn]; simp)

theorem lawCirc_yes (H : AHeap) (N : Nat) (hN : 2 ≤ N ∧ N ≤ 14 ∧ N % 2 = 0) : ACall Try.prog 6 ([.int .i64 (((N : Nat) : Int))]) H (.bool true) H := by
  refine ACall.body (N := 63) [(0, .int .i64 (((N : Nat) : Int)))] Try.func6 rfl rfl rfl rfl ?_
  refine AWp.seq ?_
  refine AWp.region ?_
  refine AOps.p rfl (p_assign rfl) ?_
  refine AOps.nil ?_
  refine AWp.seq ?_
  refine AWp.region ?_
  refine AOps.p rfl (p_move rfl) ?_
  refine AOps.c rfl (o_call (vs := [.int .i64 (((N : Nat) : Int))]) rfl Try.call17 (sCirc_ok _ _ hN (i' := H.length) (H' := H ++ placed H.length (cpat N (N - 1))) rfl rfl)) ?_
  obtain ⟨G1, hG1⟩ : ∃ Gx_ : AHeap, Gx_ = H ++ placed H.length (cpat N (N - 1)) := ⟨_, rfl⟩
  have yG1 : List.length (cpat N (N - 1)) = N - 1 := cpat_len _ _
  have lG1 : G1.length = H.length + (N - 1 + 1) := by rw [hG1, List.length_append, placed_len, yG1]
  obtain ⟨T1, hT1⟩ : ∃ Tx_ : Tab, Tx_ = canT (H.length + 1) (cpat N (N - 1)) := ⟨_, rfl⟩
  have nG1 : hget G1 (H.length) = AObj.row false (Tab.cells T1) := by rw [hG1, hT1]; exact placed_get _ _
  have wG1_T1 : TabW (H.length + 1) G1 T1 := by rw [hG1, hT1]; exact placed_tab _ _
  have iT1 : ∀ x ∈ T1, H.length + 1 ≤ x.1 ∧ x.1 < H.length + 1 + N - 1 := fun x hx => by rw [hT1] at hx; have := canT_ids x hx; omega
  have nT1 : List.length T1 = N - 1 := by rw [hT1, canT_len]; exact yG1
  have rT1 : Tab.rows T1 = (cpat N (N - 1)).map (·.2) := by rw [hT1]; exact canT_rows _ _
  have bT1 : ∀ x ∈ T1, x.2.2.length ≤ 14 := by rw [hT1]; exact canT_small (cpat_small (by omega) _)
  have tT1 : tot T1 ≤ (N - 1) * 14 := by rw [← nT1]; exact tot_bound bT1
  have qG1 : H.length < G1.length := by omega
  have holdG1 : ∀ j, j < H.length → hget G1 j = hget H j := fun j hj => by rw [hG1]; exact (hget_append_lt (by omega)).trans ((fun j hj => rfl) j hj)
  refine AOps.heap (H' := G1) hG1.symm ?_
  refine AOps.p rfl (p_move rfl) ?_
  refine AOps.p rfl (p_extract rfl rfl) ?_
  refine AOps.p rfl (p_extract rfl rfl) ?_
  refine AOps.p rfl (p_assign rfl) ?_
  refine AOps.p rfl (p_assign rfl) ?_
  refine AOps.nil ?_
  refine AWp.seq ?_
  refine AWp.region ?_
  refine AOps.p rfl (p_move rfl) ?_
  refine AOps.c rfl (o_call (vs := [.int .i64 (((N : Nat) : Int))]) rfl Try.call18 (iCirc_ok _ _ hN (i' := G1.length) (H' := G1 ++ placed G1.length (cpat N (N - 1))) rfl rfl)) ?_
  obtain ⟨G2, hG2⟩ : ∃ Gx_ : AHeap, Gx_ = G1 ++ placed G1.length (cpat N (N - 1)) := ⟨_, rfl⟩
  have yG2 : List.length (cpat N (N - 1)) = N - 1 := cpat_len _ _
  have lG2 : G2.length = G1.length + (N - 1 + 1) := by rw [hG2, List.length_append, placed_len, yG2]
  obtain ⟨T2, hT2⟩ : ∃ Tx_ : Tab, Tx_ = canT (G1.length + 1) (cpat N (N - 1)) := ⟨_, rfl⟩
  have nG2 : hget G2 (G1.length) = AObj.row false (Tab.cells T2) := by rw [hG2, hT2]; exact placed_get _ _
  have wG2_T2 : TabW (G1.length + 1) G2 T2 := by rw [hG2, hT2]; exact placed_tab _ _
  have iT2 : ∀ x ∈ T2, G1.length + 1 ≤ x.1 ∧ x.1 < G1.length + 1 + N - 1 := fun x hx => by rw [hT2] at hx; have := canT_ids x hx; omega
  have nT2 : List.length T2 = N - 1 := by rw [hT2, canT_len]; exact yG2
  have rT2 : Tab.rows T2 = (cpat N (N - 1)).map (·.2) := by rw [hT2]; exact canT_rows _ _
  have bT2 : ∀ x ∈ T2, x.2.2.length ≤ 14 := by rw [hT2]; exact canT_small (cpat_small (by omega) _)
  have tT2 : tot T2 ≤ (N - 1) * 14 := by rw [← nT2]; exact tot_bound bT2
  have kG2_1 : hget G2 (H.length) = AObj.row false (Tab.cells T1) := by rw [hG2]; exact (hget_append_lt (by have := qG1; omega)).trans (nG1)
  have mG2_1 : H.length < G2.length := by have := qG1; omega
  have qG2 : G1.length < G2.length := by omega
  have wG2_T1 : TabW (H.length + 1) G2 T1 := by rw [hG2]; exact (wG1_T1).more
  have holdG2 : ∀ j, j < H.length → hget G2 j = hget H j := fun j hj => by rw [hG2]; exact (hget_append_lt (by omega)).trans (holdG1 j hj)
  refine AOps.heap (H' := G2) hG2.symm ?_
  refine AOps.p rfl (p_move rfl) ?_
  refine AOps.p rfl (p_extract rfl rfl) ?_
  refine AOps.p rfl (p_extract rfl rfl) ?_
  refine AOps.p rfl (p_assign rfl) ?_
  refine AOps.p rfl (p_assign rfl) ?_
  refine AOps.nil ?_
  refine AWp.seq ?_
  refine AWp.seq ?_
  refine AWp.region ?_
  refine AOps.p rfl (p_move rfl) ?_
  refine AOps.p rfl (p_move rfl) ?_
  refine AOps.c rfl (o_call (vs := [.slice (some ⟨G1.length, 0, none⟩) (N - 1) (capU + 1), .slice (some ⟨H.length, 0, none⟩) (N - 1) (capU + 1)]) rfl Try.call14 (eqSS_same _ _ _ _ _ _ _ _ _ (TabIs.mk (nG2) nT2 wG2_T2.r) (TabIs.mk (kG2_1) nT1 wG2_T1.r) (by omega) (by omega) (fun x h => by have := bT2 x h; omega) (fun x h => by have := bT1 x h; omega) (rT2.trans rT1.symm))) ?_
  refine AOps.p rfl (p_not rfl) ?_
  refine AOps.p rfl (p_move rfl) ?_
  refine AOps.gp rfl rfl rfl (p_move rfl) ?_
  refine AOps.gp rfl rfl rfl (p_move rfl) ?_
  refine AOps.gp rfl rfl rfl (p_neq rfl rfl) ?_
  refine AOps.p rfl (p_pickF rfl rfl) ?_
  refine AOps.nil ?_
  refine AWp.cond rfl (fun c1 => ?_) (fun c1 => ?_)
  · have d1 := c1
    try simp only [inB, Bool.and_eq_true, Bool.or_eq_true, Bool.and_eq_false_iff, Bool.or_eq_false_iff, Bool.not_eq_true', Bool.not_eq_false', decide_eq_true_eq, decide_eq_false_iff_not, Int.not_le, Int.not_lt] at d1
    exact absurd c1 (by simp)
  · have d1 := c1
    try simp only [inB, Bool.and_eq_true, Bool.or_eq_true, Bool.and_eq_false_iff, Bool.or_eq_false_iff, Bool.not_eq_true', Bool.not_eq_false', decide_eq_true_eq, decide_eq_false_iff_not, Int.not_le, Int.not_lt] at d1
    refine AWp.skip ?_
    refine AWp.seq ?_
    refine AWp.region ?_
    refine AOps.p rfl (p_assign rfl) ?_
    refine AOps.nil ?_
    refine AWp.seq ?_
    refine AWp.region ?_
    refine AOps.p rfl (p_move rfl) ?_
    refine AOps.p rfl (p_move rfl) ?_
    refine AOps.c rfl (o_call (vs := [.slice (some ⟨G1.length, 0, none⟩) (N - 1) (capU + 1), .int .i64 (1)]) rfl Try.call15 (markSS_ok _ _ _ _ _ _ _ nT2 (by omega) (by omega) (nG2) wG2_T2 (fun x hx => by have := iT2 x hx; omega) (by omega) rfl)) ?_
    obtain ⟨G3, hG3⟩ : ∃ Gx_ : AHeap, Gx_ = setT (G2) (markT 1 T2) := ⟨_, rfl⟩
    have lG3 : G3.length = G2.length := by rw [hG3, setT_len]
    have kG3_1 : hget G3 (H.length) = AObj.row false (Tab.cells T1) := by rw [hG3]; exact (setT_out _ _ _ (mark_ne2 (fun x hx => by have := iT2 x hx; omega))).trans (kG2_1)
    have mG3_1 : H.length < G3.length := by have := mG2_1; omega
    have kG3_2 : hget G3 (G1.length) = AObj.row false (Tab.cells T2) := by rw [hG3]; exact (setT_out _ _ _ (mark_ne2 (fun x hx => by have := iT2 x hx; omega))).trans (nG2)
    have mG3_2 : G1.length < G3.length := by have := qG2; omega
    have wG3_T1 : TabW (H.length + 1) G3 T1 := by rw [hG3]; exact (wG2_T1).same (fun y hy => setT_out _ _ _ (mark_ne2 (fun x hx => by have h1 := iT2 x hx; have h2 := iT1 y hy; omega)))
    have wG3_mT2 : TabR G3 (markT 1 T2) := by rw [hG3]; exact mark_R wG2_T2
    have holdG3 : ∀ j, j < H.length → hget G3 j = hget H j := fun j hj => by rw [hG3]; exact (setT_out _ _ _ (mark_ne2 (fun x hx => by have := iT2 x hx; omega))).trans (holdG2 j hj)
    refine AOps.heap (H' := G3) hG3.symm ?_
    refine AOps.p rfl (p_assign rfl) ?_
    refine AOps.nil ?_
    refine AWp.seq ?_
    refine AWp.region ?_
    refine AOps.p rfl (p_assign rfl) ?_
    refine AOps.nil ?_
    refine AWp.seq ?_
    refine AWp.region ?_
    refine AOps.p rfl (p_move rfl) ?_
    refine AOps.p rfl (p_move rfl) ?_
    refine AOps.c rfl (o_call (vs := [.slice (some ⟨G1.length, 0, none⟩) (N - 1) (capU + 1), .int .i64 (1)]) rfl Try.call16 (heldSS_ok _ _ _ _ _ T2 _ nT2 (by omega) (by omega) (kG3_2) wG3_mT2 (by omega))) ?_
    refine AOps.p rfl (p_assign rfl) ?_
    refine AOps.nil ?_
    refine AWp.seq ?_
    refine AWp.seq ?_
    refine AWp.region ?_
    refine AOps.p rfl (p_move rfl) ?_
    refine AOps.p rfl (p_lss rfl rfl) ?_
    refine AOps.nil ?_
    refine AWp.cond rfl (fun c2 => ?_) (fun c2 => ?_)
    · have d2 := c2
      try simp only [inB, Bool.and_eq_true, Bool.or_eq_true, Bool.and_eq_false_iff, Bool.or_eq_false_iff, Bool.not_eq_true', Bool.not_eq_false', decide_eq_true_eq, decide_eq_false_iff_not, Int.not_le, Int.not_lt] at d2
      exact absurd c2 (by simp <;> omega)
    · have d2 := c2
      try simp only [inB, Bool.and_eq_true, Bool.or_eq_true, Bool.and_eq_false_iff, Bool.or_eq_false_iff, Bool.not_eq_true', Bool.not_eq_false', decide_eq_true_eq, decide_eq_false_iff_not, Int.not_le, Int.not_lt] at d2
      refine AWp.skip ?_
      refine AWp.seq ?_
      refine AWp.seq ?_
      refine AWp.region ?_
      refine AOps.p rfl (p_move rfl) ?_
      refine AOps.p rfl (p_move rfl) ?_
      refine AOps.p rfl (p_neq rfl rfl) ?_
      refine AOps.nil ?_
      refine AWp.cond rfl (fun c3 => ?_) (fun c3 => ?_)
      · have d3 := c3
        try simp only [inB, Bool.and_eq_true, Bool.or_eq_true, Bool.and_eq_false_iff, Bool.or_eq_false_iff, Bool.not_eq_true', Bool.not_eq_false', decide_eq_true_eq, decide_eq_false_iff_not, Int.not_le, Int.not_lt] at d3
        exact absurd c3 (by simp)
      · have d3 := c3
        try simp only [inB, Bool.and_eq_true, Bool.or_eq_true, Bool.and_eq_false_iff, Bool.or_eq_false_iff, Bool.not_eq_true', Bool.not_eq_false', decide_eq_true_eq, decide_eq_false_iff_not, Int.not_le, Int.not_lt] at d3
        refine AWp.skip ?_
        refine AWp.seq ?_
        refine AWp.region ?_
        refine AOps.p rfl (p_move rfl) ?_
        refine AOps.c rfl (o_call (vs := [.int .i64 (((N : Nat) : Int))]) rfl Try.call18 (iCirc_ok _ _ hN (i' := G3.length) (H' := G3 ++ placed G3.length (cpat N (N - 1))) rfl rfl)) ?_
        obtain ⟨G4, hG4⟩ : ∃ Gx_ : AHeap, Gx_ = G3 ++ placed G3.length (cpat N (N - 1)) := ⟨_, rfl⟩
        have yG4 : List.length (cpat N (N - 1)) = N - 1 := cpat_len _ _
        have lG4 : G4.length = G3.length + (N - 1 + 1) := by rw [hG4, List.length_append, placed_len, yG4]
        obtain ⟨T4, hT4⟩ : ∃ Tx_ : Tab, Tx_ = canT (G3.length + 1) (cpat N (N - 1)) := ⟨_, rfl⟩
        have nG4 : hget G4 (G3.length) = AObj.row false (Tab.cells T4) := by rw [hG4, hT4]; exact placed_get _ _
        have wG4_T4 : TabW (G3.length + 1) G4 T4 := by rw [hG4, hT4]; exact placed_tab _ _
        have iT4 : ∀ x ∈ T4, G3.length + 1 ≤ x.1 ∧ x.1 < G3.length + 1 + N - 1 := fun x hx => by rw [hT4] at hx; have := canT_ids x hx; omega
        have nT4 : List.length T4 = N - 1 := by rw [hT4, canT_len]; exact yG4
        have rT4 : Tab.rows T4 = (cpat N (N - 1)).map (·.2) := by rw [hT4]; exact canT_rows _ _
        have bT4 : ∀ x ∈ T4, x.2.2.length ≤ 14 := by rw [hT4]; exact canT_small (cpat_small (by omega) _)
        have tT4 : tot T4 ≤ (N - 1) * 14 := by rw [← nT4]; exact tot_bound bT4
        have kG4_1 : hget G4 (H.length) = AObj.row false (Tab.cells T1) := by rw [hG4]; exact (hget_append_lt (by have := mG3_1; omega)).trans (kG3_1)
        have mG4_1 : H.length < G4.length := by have := mG3_1; omega
        have kG4_2 : hget G4 (G1.length) = AObj.row false (Tab.cells T2) := by rw [hG4]; exact (hget_append_lt (by have := mG3_2; omega)).trans (kG3_2)
        have mG4_2 : G1.length < G4.length := by have := mG3_2; omega
        have qG4 : G3.length < G4.length := by omega
        have wG4_T1 : TabW (H.length + 1) G4 T1 := by rw [hG4]; exact (wG3_T1).more
        have wG4_mT2 : TabR G4 (markT 1 T2) := by rw [hG4]; exact (wG3_mT2).more
        have holdG4 : ∀ j, j < H.length → hget G4 j = hget H j := fun j hj => by rw [hG4]; exact (hget_append_lt (by omega)).trans (holdG3 j hj)
        refine AOps.heap (H' := G4) hG4.symm ?_
        refine AOps.p rfl (p_move rfl) ?_
        refine AOps.p rfl (p_extract rfl rfl) ?_
        refine AOps.p rfl (p_extract rfl rfl) ?_
        refine AOps.p rfl (p_assign rfl) ?_
        refine AOps.p rfl (p_assign rfl) ?_
        refine AOps.nil ?_
        refine AWp.seq ?_
        refine AWp.seq ?_
        refine AWp.region ?_
        refine AOps.p rfl (p_move rfl) ?_
        refine AOps.p rfl (p_move rfl) ?_
        refine AOps.c rfl (o_call (vs := [.slice (some ⟨G3.length, 0, none⟩) (N - 1) (capU + 1), .slice (some ⟨H.length, 0, none⟩) (N - 1) (capU + 1)]) rfl Try.call14 (eqSS_same _ _ _ _ _ _ _ _ _ (TabIs.mk (nG4) nT4 wG4_T4.r) (TabIs.mk (kG4_1) nT1 wG4_T1.r) (by omega) (by omega) (fun x h => by have := bT4 x h; omega) (fun x h => by have := bT1 x h; omega) (rT4.trans rT1.symm))) ?_
        refine AOps.p rfl (p_not rfl) ?_
        refine AOps.p rfl (p_move rfl) ?_
        refine AOps.gp rfl rfl rfl (p_move rfl) ?_
        refine AOps.gp rfl rfl rfl (p_move rfl) ?_
        refine AOps.gp rfl rfl rfl (p_neq rfl rfl) ?_
        refine AOps.p rfl (p_pickF rfl rfl) ?_
        refine AOps.nil ?_
        refine AWp.cond rfl (fun c4 => ?_) (fun c4 => ?_)
        · have d4 := c4
          try simp only [inB, Bool.and_eq_true, Bool.or_eq_true, Bool.and_eq_false_iff, Bool.or_eq_false_iff, Bool.not_eq_true', Bool.not_eq_false', decide_eq_true_eq, decide_eq_false_iff_not, Int.not_le, Int.not_lt] at d4
          exact absurd c4 (by simp)
        · have d4 := c4
          try simp only [inB, Bool.and_eq_true, Bool.or_eq_true, Bool.and_eq_false_iff, Bool.or_eq_false_iff, Bool.not_eq_true', Bool.not_eq_false', decide_eq_true_eq, decide_eq_false_iff_not, Int.not_le, Int.not_lt] at d4
          refine AWp.skip ?_
          refine AWp.seq ?_
          refine AWp.region ?_
          refine AOps.p rfl (p_assign rfl) ?_
          refine AOps.nil ?_
          refine AWp.seq ?_
          refine AWp.region ?_
          refine AOps.p rfl (p_move rfl) ?_
          refine AOps.p rfl (p_move rfl) ?_
          refine AOps.c rfl (o_call (vs := [.slice (some ⟨G1.length, 0, none⟩) (N - 1) (capU + 1), .int .i64 (1)]) rfl Try.call16 (heldSS_ok _ _ _ _ _ T2 _ nT2 (by omega) (by omega) (kG4_2) wG4_mT2 (by omega))) ?_
          refine AOps.p rfl (p_assign rfl) ?_
          refine AOps.nil ?_
          refine AWp.seq ?_
          refine AWp.seq ?_
          refine AWp.region ?_
          refine AOps.p rfl (p_move rfl) ?_
          refine AOps.p rfl (p_lss rfl rfl) ?_
          refine AOps.nil ?_
          refine AWp.cond rfl (fun c5 => ?_) (fun c5 => ?_)
          · have d5 := c5
            try simp only [inB, Bool.and_eq_true, Bool.or_eq_true, Bool.and_eq_false_iff, Bool.or_eq_false_iff, Bool.not_eq_true', Bool.not_eq_false', decide_eq_true_eq, decide_eq_false_iff_not, Int.not_le, Int.not_lt] at d5
            exact absurd c5 (by simp <;> omega)
          · have d5 := c5
            try simp only [inB, Bool.and_eq_true, Bool.or_eq_true, Bool.and_eq_false_iff, Bool.or_eq_false_iff, Bool.not_eq_true', Bool.not_eq_false', decide_eq_true_eq, decide_eq_false_iff_not, Int.not_le, Int.not_lt] at d5
            refine AWp.skip ?_
            refine AWp.seq ?_
            refine AWp.seq ?_
            refine AWp.region ?_
            refine AOps.p rfl (p_move rfl) ?_
            refine AOps.p rfl (p_move rfl) ?_
            refine AOps.p rfl (p_neq rfl rfl) ?_
            refine AOps.nil ?_
            refine AWp.cond rfl (fun c6 => ?_) (fun c6 => ?_)
            · have d6 := c6
              try simp only [inB, Bool.and_eq_true, Bool.or_eq_true, Bool.and_eq_false_iff, Bool.or_eq_false_iff, Bool.not_eq_true', Bool.not_eq_false', decide_eq_true_eq, decide_eq_false_iff_not, Int.not_le, Int.not_lt] at d6
              exact absurd c6 (by simp)
            · have d6 := c6
              try simp only [inB, Bool.and_eq_true, Bool.or_eq_true, Bool.and_eq_false_iff, Bool.or_eq_false_iff, Bool.not_eq_true', Bool.not_eq_false', decide_eq_true_eq, decide_eq_false_iff_not, Int.not_le, Int.not_lt] at d6
              refine AWp.skip ?_
              refine AWp.seq ?_
              refine AWp.region ?_
              refine AOps.p rfl (p_assign rfl) ?_
              refine AOps.nil ?_
              refine AWp.ret ?_
              refine ends (.inr rfl) (res1 rfl (rv_tmp rfl)) ?_ (Fin.drop (flatB_ok rfl) holdG4)
              -- return 1: .bool true
              exact rfl

theorem lawCirc_no (H : AHeap) (n : Int) (hn : cOk n = false) : ACall Try.prog 6 ([.int .i64 (n)]) H (.bool true) H := by
  refine ACall.body (N := 63) [(0, .int .i64 (n))] Try.func6 rfl rfl rfl rfl ?_
  refine AWp.seq ?_
  refine AWp.region ?_
  refine AOps.p rfl (p_assign rfl) ?_
  refine AOps.nil ?_
  refine AWp.seq ?_
  refine AWp.region ?_
  refine AOps.p rfl (p_move rfl) ?_
  refine AOps.c rfl (o_call (vs := [.int .i64 (n)]) rfl Try.call17 (sCirc_no _ _ hn)) ?_
  refine AOps.p rfl (p_move rfl) ?_
  refine AOps.p rfl (p_extract rfl rfl) ?_
  refine AOps.p rfl (p_extract rfl rfl) ?_
  refine AOps.p rfl (p_assign rfl) ?_
  refine AOps.p rfl (p_assign rfl) ?_
  refine AOps.nil ?_
  refine AWp.seq ?_
  refine AWp.region ?_
  refine AOps.p rfl (p_move rfl) ?_
  refine AOps.c rfl (o_call (vs := [.int .i64 (n)]) rfl Try.call18 (iCirc_no _ _ hn)) ?_
  refine AOps.p rfl (p_move rfl) ?_
  refine AOps.p rfl (p_extract rfl rfl) ?_
  refine AOps.p rfl (p_extract rfl rfl) ?_
  refine AOps.p rfl (p_assign rfl) ?_
  refine AOps.p rfl (p_assign rfl) ?_
  refine AOps.nil ?_
  refine AWp.seq ?_
  refine AWp.seq ?_
  refine AWp.region ?_
  refine AOps.p rfl (p_move rfl) ?_
  refine AOps.p rfl (p_move rfl) ?_
  refine AOps.c rfl (o_call (vs := [.slice none 0 0, .slice none 0 0]) rfl Try.call14 (eqSS_same _ _ _ _ _ _ _ _ _ (TabIs.nil _ _) (TabIs.nil _ _) (by omega) (by omega) (fun x h => (by cases h)) (fun x h => (by cases h)) rfl)) ?_
  refine AOps.p rfl (p_not rfl) ?_
  refine AOps.p rfl (p_move rfl) ?_
  refine AOps.gp rfl rfl rfl (p_move rfl) ?_
  refine AOps.gp rfl rfl rfl (p_move rfl) ?_
  refine AOps.gp rfl rfl rfl (p_neq rfl rfl) ?_
  refine AOps.p rfl (p_pickF rfl rfl) ?_
  refine AOps.nil ?_
  refine AWp.cond rfl (fun c1 => ?_) (fun c1 => ?_)
  · have d1 := c1
    try simp only [inB, Bool.and_eq_true, Bool.or_eq_true, Bool.and_eq_false_iff, Bool.or_eq_false_iff, Bool.not_eq_true', Bool.not_eq_false', decide_eq_true_eq, decide_eq_false_iff_not, Int.not_le, Int.not_lt] at d1
    exact absurd c1 (by simp)
  · have d1 := c1
    try simp only [inB, Bool.and_eq_true, Bool.or_eq_true, Bool.and_eq_false_iff, Bool.or_eq_false_iff, Bool.not_eq_true', Bool.not_eq_false', decide_eq_true_eq, decide_eq_false_iff_not, Int.not_le, Int.not_lt] at d1
    refine AWp.skip ?_
    refine AWp.seq ?_
    refine AWp.region ?_
    refine AOps.p rfl (p_assign rfl) ?_
    refine AOps.nil ?_
    refine AWp.seq ?_
    refine AWp.region ?_
    refine AOps.p rfl (p_move rfl) ?_
    refine AOps.p rfl (p_move rfl) ?_
    refine AOps.c rfl (o_call (vs := [.slice none 0 0, .int .i64 (1)]) rfl Try.call15 (markSS_nil _ _)) ?_
    refine AOps.p rfl (p_assign rfl) ?_
    refine AOps.nil ?_
    refine AWp.seq ?_
    refine AWp.region ?_
    refine AOps.p rfl (p_assign rfl) ?_
    refine AOps.nil ?_
    refine AWp.seq ?_
    refine AWp.region ?_
    refine AOps.p rfl (p_move rfl) ?_
    refine AOps.p rfl (p_move rfl) ?_
    refine AOps.c rfl (o_call (vs := [.slice none 0 0, .int .i64 (1)]) rfl Try.call16 (heldSS_nil _ _)) ?_
    refine AOps.p rfl (p_assign rfl) ?_
    refine AOps.nil ?_
    refine AWp.seq ?_
    refine AWp.seq ?_
    refine AWp.region ?_
    refine AOps.p rfl (p_move rfl) ?_
    refine AOps.p rfl (p_lss rfl rfl) ?_
    refine AOps.nil ?_
    refine AWp.cond rfl (fun c2 => ?_) (fun c2 => ?_)
    · have d2 := c2
      try simp only [inB, Bool.and_eq_true, Bool.or_eq_true, Bool.and_eq_false_iff, Bool.or_eq_false_iff, Bool.not_eq_true', Bool.not_eq_false', decide_eq_true_eq, decide_eq_false_iff_not, Int.not_le, Int.not_lt] at d2
      exact absurd c2 (by simp <;> omega)
    · have d2 := c2
      try simp only [inB, Bool.and_eq_true, Bool.or_eq_true, Bool.and_eq_false_iff, Bool.or_eq_false_iff, Bool.not_eq_true', Bool.not_eq_false', decide_eq_true_eq, decide_eq_false_iff_not, Int.not_le, Int.not_lt] at d2
      refine AWp.skip ?_
      refine AWp.seq ?_
      refine AWp.seq ?_
      refine AWp.region ?_
      refine AOps.p rfl (p_move rfl) ?_
      refine AOps.p rfl (p_move rfl) ?_
      refine AOps.p rfl (p_neq rfl rfl) ?_
      refine AOps.nil ?_
      refine AWp.cond rfl (fun c3 => ?_) (fun c3 => ?_)
      · have d3 := c3
        try simp only [inB, Bool.and_eq_true, Bool.or_eq_true, Bool.and_eq_false_iff, Bool.or_eq_false_iff, Bool.not_eq_true', Bool.not_eq_false', decide_eq_true_eq, decide_eq_false_iff_not, Int.not_le, Int.not_lt] at d3
        exact absurd c3 (by simp)
      · have d3 := c3
        try simp only [inB, Bool.and_eq_true, Bool.or_eq_true, Bool.and_eq_false_iff, Bool.or_eq_false_iff, Bool.not_eq_true', Bool.not_eq_false', decide_eq_true_eq, decide_eq_false_iff_not, Int.not_le, Int.not_lt] at d3
        refine AWp.skip ?_
        refine AWp.seq ?_
        refine AWp.region ?_
        refine AOps.p rfl (p_move rfl) ?_
        refine AOps.c rfl (o_call (vs := [.int .i64 (n)]) rfl Try.call18 (iCirc_no _ _ hn)) ?_
        refine AOps.p rfl (p_move rfl) ?_
        refine AOps.p rfl (p_extract rfl rfl) ?_
        refine AOps.p rfl (p_extract rfl rfl) ?_
        refine AOps.p rfl (p_assign rfl) ?_
        refine AOps.p rfl (p_assign rfl) ?_
        refine AOps.nil ?_
        refine AWp.seq ?_
        refine AWp.seq ?_
        refine AWp.region ?_
        refine AOps.p rfl (p_move rfl) ?_
        refine AOps.p rfl (p_move rfl) ?_
        refine AOps.c rfl (o_call (vs := [.slice none 0 0, .slice none 0 0]) rfl Try.call14 (eqSS_same _ _ _ _ _ _ _ _ _ (TabIs.nil _ _) (TabIs.nil _ _) (by omega) (by omega) (fun x h => (by cases h)) (fun x h => (by cases h)) rfl)) ?_
        refine AOps.p rfl (p_not rfl) ?_
        refine AOps.p rfl (p_move rfl) ?_
        refine AOps.gp rfl rfl rfl (p_move rfl) ?_
        refine AOps.gp rfl rfl rfl (p_move rfl) ?_
        refine AOps.gp rfl rfl rfl (p_neq rfl rfl) ?_
        refine AOps.p rfl (p_pickF rfl rfl) ?_
        refine AOps.nil ?_
        refine AWp.cond rfl (fun c4 => ?_) (fun c4 => ?_)
        · have d4 := c4
          try simp only [inB, Bool.and_eq_true, Bool.or_eq_true, Bool.and_eq_false_iff, Bool.or_eq_false_iff, Bool.not_eq_true', Bool.not_eq_false', decide_eq_true_eq, decide_eq_false_iff_not, Int.not_le, Int.not_lt] at d4
          exact absurd c4 (by simp)
        · have d4 := c4
          try simp only [inB, Bool.and_eq_true, Bool.or_eq_true, Bool.and_eq_false_iff, Bool.or_eq_false_iff, Bool.not_eq_true', Bool.not_eq_false', decide_eq_true_eq, decide_eq_false_iff_not, Int.not_le, Int.not_lt] at d4
          refine AWp.skip ?_
          refine AWp.seq ?_
          refine AWp.region ?_
          refine AOps.p rfl (p_assign rfl) ?_
          refine AOps.nil ?_
          refine AWp.seq ?_
          refine AWp.region ?_
          refine AOps.p rfl (p_move rfl) ?_
          refine AOps.p rfl (p_move rfl) ?_
          refine AOps.c rfl (o_call (vs := [.slice none 0 0, .int .i64 (1)]) rfl Try.call16 (heldSS_nil _ _)) ?_
          refine AOps.p rfl (p_assign rfl) ?_
          refine AOps.nil ?_
          refine AWp.seq ?_
          refine AWp.seq ?_
          refine AWp.region ?_
          refine AOps.p rfl (p_move rfl) ?_
          refine AOps.p rfl (p_lss rfl rfl) ?_
          refine AOps.nil ?_
          refine AWp.cond rfl (fun c5 => ?_) (fun c5 => ?_)
          · have d5 := c5
            try simp only [inB, Bool.and_eq_true, Bool.or_eq_true, Bool.and_eq_false_iff, Bool.or_eq_false_iff, Bool.not_eq_true', Bool.not_eq_false', decide_eq_true_eq, decide_eq_false_iff_not, Int.not_le, Int.not_lt] at d5
            exact absurd c5 (by simp <;> omega)
          · have d5 := c5
            try simp only [inB, Bool.and_eq_true, Bool.or_eq_true, Bool.and_eq_false_iff, Bool.or_eq_false_iff, Bool.not_eq_true', Bool.not_eq_false', decide_eq_true_eq, decide_eq_false_iff_not, Int.not_le, Int.not_lt] at d5
            refine AWp.skip ?_
            refine AWp.seq ?_
            refine AWp.seq ?_
            refine AWp.region ?_
            refine AOps.p rfl (p_move rfl) ?_
            refine AOps.p rfl (p_move rfl) ?_
            refine AOps.p rfl (p_neq rfl rfl) ?_
            refine AOps.nil ?_
            refine AWp.cond rfl (fun c6 => ?_) (fun c6 => ?_)
            · have d6 := c6
              try simp only [inB, Bool.and_eq_true, Bool.or_eq_true, Bool.and_eq_false_iff, Bool.or_eq_false_iff, Bool.not_eq_true', Bool.not_eq_false', decide_eq_true_eq, decide_eq_false_iff_not, Int.not_le, Int.not_lt] at d6
              exact absurd c6 (by simp)
            · have d6 := c6
              try simp only [inB, Bool.and_eq_true, Bool.or_eq_true, Bool.and_eq_false_iff, Bool.or_eq_false_iff, Bool.not_eq_true', Bool.not_eq_false', decide_eq_true_eq, decide_eq_false_iff_not, Int.not_le, Int.not_lt] at d6
              refine AWp.skip ?_
              refine AWp.seq ?_
              refine AWp.region ?_
              refine AOps.p rfl (p_assign rfl) ?_
              refine AOps.nil ?_
              refine AWp.ret ?_
              refine ends (.inr rfl) (res1 rfl (rv_tmp rfl)) ?_ (Fin.refl _ _ _)
              -- return 1: .bool true
              exact rfl

theorem lawCirc_ok (H : AHeap) (n : Int) : ACall Try.prog 6 [.int .i64 n] H (.bool true) H := by
  cases h : cOk n with
  | true =>
    obtain ⟨N, rfl, hN⟩ := cOk_yes h
    exact lawCirc_yes H N hN
  | false => exact lawCirc_no H n h
end Go.Proofs.Ytgageobfalmhpaa