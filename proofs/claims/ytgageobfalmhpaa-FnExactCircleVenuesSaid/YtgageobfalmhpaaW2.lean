import Derived.Test.YtgageobfalmhpaaW1
import Derived.Test.YtgageobfalmhpaaAm14
namespace Go.Proofs.Ytgageobfalmhpaa
open Go Go.RowKit Am
set_option linter.unusedVariables false
set_option linter.unusedSimpArgs false
def szv (l : Int) (n : Nat) : Int := if l - n < 0 then -1 else l - n
theorem szv_neg {l : Int} {n : Nat} (h : szv l n < 0) : -1 = szv l n := by unfold szv at *; split at h <;> split <;> omega
theorem szv_pos {n : Nat} (h : 0 ≤ szv 1048576 n) : n ≤ 1048576 := by unfold szv at h; split at h <;> omega
theorem inB_no {n lo hi : Int} (h : n < lo ∨ hi < n) : inB n lo hi = false := by
  unfold inB; rcases h with h | h
  · rw [decide_eq_false (by omega)]; rfl
  · rw [decide_eq_false (p := n ≤ hi) (by omega), Bool.and_false]
theorem ints_ext {a b : List Int} (hl : a.length = b.length) (h : ∀ j, j < a.length → rd a j = rd b j) : a = b := by
  apply List.ext_getElem hl
  intro j h1 h2
  have := h j h1
  simpa [rd, List.getD_eq_getElem?_getD, List.getElem?_eq_getElem h1, List.getElem?_eq_getElem h2] using this
theorem rows_eq {a b : List (List Int)} (hl : a.length = b.length) (h : ∀ j, j < a.length → rw_ a j = rw_ b j) : a = b := by
  apply List.ext_getElem hl
  intro j h1 h2
  have := h j h1
  simpa [rw_, List.getD_eq_getElem?_getD, List.getElem?_eq_getElem h1, List.getElem?_eq_getElem h2] using this
theorem step_ {p : Nat → Bool} {v : Bool} {k : Nat} (h : ∀ j, j < k → p j = v) (hk : p k = v) : ∀ j, j < k + 1 → p j = v := by
  intro j hj
  rcases Nat.lt_succ_iff_lt_or_eq.1 hj with hj | rfl
  · exact h j hj
  · exact hk
theorem eq_step {r q : List Int} {k : Nat} (h : ∀ j, j < k → rd r j = rd q j) (hk : rd r k = rd q k) : ∀ j, j < k + 1 → rd r j = rd q j := by
  intro j hj
  rcases Nat.lt_succ_iff_lt_or_eq.1 hj with hj | rfl
  · exact h j hj
  · exact hk
theorem eq_stepR {r q : List (List Int)} {k : Nat} (h : ∀ j, j < k → rw_ r j = rw_ q j) (hk : rw_ r k = rw_ q k) : ∀ j, j < k + 1 → rw_ r j = rw_ q j := by
  intro j hj
  rcases Nat.lt_succ_iff_lt_or_eq.1 hj with hj | rfl
  · exact h j hj
  · exact hk
theorem eq_no {r q : List Int} {k : Nat} (h : ¬ rd r k = rd q k) : decide (r = q) = false := decide_eq_false fun e => h (by rw [e])
theorem eq_yes {r q : List Int} {k n : Nat} (hr : r.length = n) (hq : q.length = n) (hk : n ≤ k) (h : ∀ j, j < k → rd r j = rd q j) : decide (r = q) = true := decide_eq_true (ints_ext (by omega) fun j hj => h j (by omega))
theorem rw_mem {l : List (List Int)} {k : Nat} (h : k < l.length) : rw_ l k ∈ l := by
  unfold rw_; rw [List.getD_eq_getElem?_getD, List.getElem?_eq_getElem h]; exact List.getElem_mem h
theorem rw_of {l : List (List Int)} {r : List Int} (h : r ∈ l) : ∃ k, k < l.length ∧ rw_ l k = r := by
  obtain ⟨k, hk, rfl⟩ := List.getElem_of_mem h
  exact ⟨k, hk, by simp [rw_, List.getD_eq_getElem?_getD, List.getElem?_eq_getElem hk]⟩
def isSch (tm : Int) (rs : List (List Int)) : Bool := inB tm 2 14 && decide (rs.length ≤ 40) && rs.all (isRnd tm)
theorem isSch_no {tm : Int} {rs : List (List Int)} (h : inB tm 2 14 = false ∨ 40 < rs.length) : isSch tm rs = false := by
  unfold isSch
  rcases h with h | h
  · rw [h]; rfl
  · rw [decide_eq_false (by omega)]; simp
theorem isSch_at {tm : Int} {rs : List (List Int)} {k : Nat} (hk : k < rs.length) (h : isRnd tm (rw_ rs k) = false) : isSch tm rs = false := by
  unfold isSch
  rw [Bool.and_eq_false_iff]; right
  rw [List.all_eq_false]
  exact ⟨_, rw_mem hk, by simp [h]⟩
theorem isSch_all {tm : Int} {rs : List (List Int)} (h : inB tm 2 14 = true ∧ rs.length ≤ 40) (ha : ∀ j, j < rs.length → isRnd tm (rw_ rs j) = true) : isSch tm rs = true := by
  unfold isSch
  rw [h.1, decide_eq_true h.2, Bool.true_and, Bool.true_and, List.all_eq_true]
  intro r hr
  obtain ⟨k, hk, rfl⟩ := rw_of hr
  exact ha k hk
theorem isSch_E (tm : Int) (rs : List (List Int)) : ((inB tm 2 14 && decide ((rs.length : Int) ≤ 40)) && !(rs.any fun r => !isRnd tm r)) = isSch tm rs := by
  unfold isSch
  congr 1
  · congr 1; exact decide_eq_decide.2 (by omega)
  · rw [List.not_any_eq_all_not]; simp
def idxR (p : List Int → Bool) (rs : List (List Int)) : Int := match rs.findIdx? p with | some k => k | none => -1
theorem anyR_of (p : List Int → Bool) (rs : List (List Int)) : decide (0 ≤ idxR p rs) = rs.any p := by
  unfold idxR
  cases h : rs.findIdx? p with
  | none =>
    rw [List.findIdx?_eq_none_iff] at h
    have : rs.any p = false := by rw [List.any_eq_false]; intro x hx; simp [h x hx]
    rw [this]; rfl
  | some k =>
    obtain ⟨h1, h2, _⟩ := List.findIdx?_eq_some_iff_getElem.1 h
    have : rs.any p = true := List.any_eq_true.2 ⟨_, List.getElem_mem h1, h2⟩
    rw [this]; simp
theorem idxR_at {p : List Int → Bool} {rs : List (List Int)} {k : Nat} (hI : ∀ j, j < k → p (rw_ rs j) = false) (hk : k < rs.length) (h : p (rw_ rs k) = true) : idxR p rs = k := by
  unfold idxR
  have e : ∀ j (hj : j < rs.length), rw_ rs j = rs[j] := fun j hj => by simp [rw_, List.getD_eq_getElem?_getD, List.getElem?_eq_getElem hj]
  have : rs.findIdx? p = some k := List.findIdx?_eq_some_iff_getElem.2 ⟨hk, by rw [← e]; exact h, fun j hj => by rw [← e j (by omega), hI j hj]; simp⟩
  rw [this]
theorem idxR_none {p : List Int → Bool} {rs : List (List Int)} (hI : ∀ j, j < rs.length → p (rw_ rs j) = false) : idxR p rs = -1 := by
  unfold idxR
  have : rs.findIdx? p = none := by
    rw [List.findIdx?_eq_none_iff]
    intro x hx
    obtain ⟨k, hk, rfl⟩ := rw_of hx
    exact hI k hk
  rw [this]

theorem szRoundS_ok (H : AHeap) (i n c : Nat) (left : Int) (hn : n ≤ 9223372036854775807) (h0 : 0 ≤ left) (h1 : left ≤ 1048576) : ACall Try.prog 38 ([.slice (some ⟨i, 0, none⟩) (n) (c), .int .i64 (left)]) H (.int .i64 (szv left n)) H := by
  refine ACall.body (N := 12) [(0, .slice (some ⟨i, 0, none⟩) (n) (c)), (1, .int .i64 (left))] Try.func38 rfl rfl rfl rfl ?_
  refine AWp.seq ?_
  refine AWp.region ?_
  refine AOps.p rfl (p_assign rfl) ?_
  refine AOps.nil ?_
  refine AWp.seq ?_
  refine AWp.region ?_
  refine AOps.p rfl (p_move rfl) ?_
  refine AOps.p rfl (p_move rfl) ?_
  refine AOps.p rfl (p_len_slice rfl Try.underlying40) ?_
  refine AOps.p rfl (p_sub rfl rfl (wr64 (by omega) (by omega))) ?_
  refine AOps.p rfl (p_assign rfl) ?_
  refine AOps.nil ?_
  refine AWp.seq ?_
  refine AWp.seq ?_
  refine AWp.region ?_
  refine AOps.p rfl (p_move rfl) ?_
  refine AOps.p rfl (p_lss rfl rfl) ?_
  refine AOps.nil ?_
  refine AWp.cond rfl (fun c1 => ?_) (fun c1 => ?_)
  · have d1 := c1
    try simp only [inB, Bool.and_eq_true, Bool.or_eq_true, Bool.and_eq_false_iff, Bool.or_eq_false_iff, Bool.not_eq_true', Bool.not_eq_false', decide_eq_true_eq, decide_eq_false_iff_not, Int.not_le, Int.not_lt] at d1
    refine AWp.seq ?_
    refine AWp.region ?_
    refine AOps.p rfl (p_assign rfl) ?_
    refine AOps.nil ?_
    refine AWp.ret ?_
    refine ends (.inr rfl) (res1 rfl (rv_tmp rfl)) ?_ (Fin.refl _ _ _)
    -- return 1: .int .i64 ((-1))
    exact int_eq (by unfold szv; rw [if_pos d1])
  · have d1 := c1
    try simp only [inB, Bool.and_eq_true, Bool.or_eq_true, Bool.and_eq_false_iff, Bool.or_eq_false_iff, Bool.not_eq_true', Bool.not_eq_false', decide_eq_true_eq, decide_eq_false_iff_not, Int.not_le, Int.not_lt] at d1
    refine AWp.skip ?_
    refine AWp.seq ?_
    refine AWp.region ?_
    refine AOps.p rfl (p_move rfl) ?_
    refine AOps.p rfl (p_assign rfl) ?_
    refine AOps.nil ?_
    refine AWp.ret ?_
    refine ends (.inr rfl) (res1 rfl (rv_tmp rfl)) ?_ (Fin.refl _ _ _)
    -- return 2: .int .i64 (left - ((n : Nat) : Int))
    exact int_eq (by unfold szv; rw [if_neg (by omega)])

theorem szSchedule_ok (H : AHeap) (tm : Int) (i n c : Nat) (left : Int) (hn : n ≤ 9223372036854775807) (h0 : 0 ≤ left) (h1 : left ≤ 1048576) : ACall Try.prog 24 ([.agg ([.int .i64 (tm), .slice (some ⟨i, 0, none⟩) (n) (c)]).toArray, .int .i64 (left)]) H (.int .i64 (szv left n)) H := by
  refine ACall.body (N := 12) [(0, .agg ([.int .i64 (tm), .slice (some ⟨i, 0, none⟩) (n) (c)]).toArray), (1, .int .i64 (left))] Try.func24 rfl rfl rfl rfl ?_
  refine AWp.seq ?_
  refine AWp.region ?_
  refine AOps.c rfl (s_box (i := H.length + 0) (cs := [.int .i64 (tm), .slice (some ⟨i, 0, none⟩) (n) (c)]) rfl rfl rfl rfl) ?_
  refine AOps.p rfl (p_assign rfl) ?_
  refine AOps.nil ?_
  refine AWp.seq ?_
  refine AWp.region ?_
  refine AOps.p rfl (s_fieldAddr Try.underlying42 rfl Try.sizeOf40 (by decide) rfl rfl) ?_
  refine AOps.c rfl (s_load Try.isAgg40 rfl (row_cell (own_row rfl) (rfl))) ?_
  refine AOps.p rfl (p_move rfl) ?_
  refine AOps.c rfl (o_call (vs := [.slice (some ⟨i, 0, none⟩) (n) (c), .int .i64 (left)]) rfl Try.call38 (szRoundS_ok _ _ _ _ _ (by omega) (by omega) (by omega))) ?_
  refine AOps.p rfl (p_assign rfl) ?_
  refine AOps.nil ?_
  refine AWp.seq ?_
  refine AWp.seq ?_
  refine AWp.region ?_
  refine AOps.p rfl (p_move rfl) ?_
  refine AOps.p rfl (p_lss rfl rfl) ?_
  refine AOps.nil ?_
  refine AWp.cond rfl (fun c1 => ?_) (fun c1 => ?_)
  · have d1 := c1
    try simp only [inB, Bool.and_eq_true, Bool.or_eq_true, Bool.and_eq_false_iff, Bool.or_eq_false_iff, Bool.not_eq_true', Bool.not_eq_false', decide_eq_true_eq, decide_eq_false_iff_not, Int.not_le, Int.not_lt] at d1
    refine AWp.seq ?_
    refine AWp.region ?_
    refine AOps.p rfl (p_assign rfl) ?_
    refine AOps.nil ?_
    refine AWp.ret ?_
    refine ends (.inr rfl) (res1 rfl (rv_tmp rfl)) ?_ (Fin.dropOwn (flatB_ok rfl))
    -- return 1: .int .i64 ((-1))
    exact int_eq (szv_neg d1)
  · have d1 := c1
    try simp only [inB, Bool.and_eq_true, Bool.or_eq_true, Bool.and_eq_false_iff, Bool.or_eq_false_iff, Bool.not_eq_true', Bool.not_eq_false', decide_eq_true_eq, decide_eq_false_iff_not, Int.not_le, Int.not_lt] at d1
    refine AWp.skip ?_
    refine AWp.seq ?_
    refine AWp.region ?_
    refine AOps.p rfl (p_move rfl) ?_
    refine AOps.p rfl (p_assign rfl) ?_
    refine AOps.nil ?_
    refine AWp.ret ?_
    refine ends (.inr rfl) (res1 rfl (rv_tmp rfl)) ?_ (Fin.dropOwn (flatB_ok rfl))
    -- return 2: .int .i64 (szv left n)
    exact rfl

theorem toRoundS_ok (H : AHeap) (i c : Nat) (ro : Bool) (rs : List (List Int)) (hg : hget H i = .row ro (ints rs.flatten)) (hA : All 14 rs) (hB : rs.length ≤ 1048576) {i' : Nat} {H' : AHeap} (hi : H.length = i') (hH : H ++ [AObj.row false (ints rs.flatten)] = H') : ACall Try.prog 40 ([.slice (some ⟨i, 0, none⟩) (rs.length) (c)]) H (.slice (some ⟨i', 0, none⟩) rs.length rs.length) H' := by
  subst hi hH
  refine ACall.body (N := 23) [(0, .slice (some ⟨i, 0, none⟩) (rs.length) (c))] Try.func40 rfl rfl rfl rfl ?_
  refine AWp.seq ?_
  refine AWp.region ?_
  refine AOps.p rfl (p_assign rfl) ?_
  refine AOps.nil ?_
  refine AWp.seq ?_
  refine AWp.region ?_
  refine AOps.p rfl (p_move rfl) ?_
  refine AOps.p rfl (p_len_slice rfl Try.underlying40) ?_
  refine AOps.c rfl (s_makeRows (r := List.replicate 14 0) (i := H.length + 0) (n := rs.length) (c := rs.length) (by_ := 112) Try.underlying45 Try.typeInfo25 Try.sizeOf25 Try.zeroValue25 rfl rfl rfl rfl rfl (by omega) (by omega) (by omega) (by decide) rfl rfl) ?_
  refine AOps.p rfl (p_assign rfl) ?_
  refine AOps.nil ?_
  refine AWp.seq ?_
  refine AWp.seq ?_
  refine AWp.region ?_
  refine AOps.p rfl (p_assign rfl) ?_
  refine AOps.nil ?_
  refine AWp.block ?_
  refine AWp.round (α := Nat) (fun k => [(0, .slice (some ⟨i, 0, none⟩) (rs.length) (c)), (2, .slice none 0 0), (3, .slice (some ⟨H.length + 0, 0, none⟩) (rs.length) (rs.length)), (4, .int .i64 (((k : Nat) : Int)))]) (fun k => H ++ [AObj.row false (ints (cpyR (List.replicate 14 0) rs rs.length k).flatten)]) (fun k => k ≤ rs.length) (fun k => rs.length - k) 0 (Nat.zero_le _) (Sub.cons' rfl rfl (Sub.cons' rfl rfl (Sub.cons' rfl rfl (Sub.cons' rfl rfl (Sub.nil _))))) (by rw [cpyR_zero] <;> rfl) ?_
  intro k hInv0
  have hcA := cpyR_all (i := k) hA (z := List.replicate 14 0) List.length_replicate (Nat.le_refl _)
  have hcl := cpyR_length (List.replicate 14 0) rs rs.length k
  refine AWp.sub (t' := [(0, .slice (some ⟨i, 0, none⟩) (rs.length) (c)), (2, .slice none 0 0), (3, .slice (some ⟨H.length + 0, 0, none⟩) (rs.length) (rs.length)), (4, .int .i64 (((k : Nat) : Int)))]) (Sub.refl _) ?_
  refine AWp.heap (H' := H ++ [AObj.row false (ints (cpyR (List.replicate 14 0) rs rs.length k).flatten)]) rfl ?_
  refine AWp.seq ?_
  refine AWp.seq ?_
  refine AWp.region ?_
  refine AOps.p rfl (p_move rfl) ?_
  refine AOps.p rfl (p_move rfl) ?_
  refine AOps.p rfl (p_len_slice rfl Try.underlying40) ?_
  refine AOps.p rfl (p_lss rfl rfl) ?_
  refine AOps.nil ?_
  refine AWp.cond rfl (fun c1 => ?_) (fun c1 => ?_)
  · have d1 := c1
    try simp only [inB, Bool.and_eq_true, Bool.or_eq_true, Bool.and_eq_false_iff, Bool.or_eq_false_iff, Bool.not_eq_true', Bool.not_eq_false', decide_eq_true_eq, decide_eq_false_iff_not, Int.not_le, Int.not_lt] at d1
    refine AWp.skip ?_
    refine AWp.seq ?_
    refine AWp.block ?_
    refine AWp.region ?_
    refine AOps.p rfl (p_move rfl) ?_
    refine AOps.p rfl (p_move rfl) ?_
    refine AOps.p rfl (p_move rfl) ?_
    refine AOps.p rfl (p_move rfl) ?_
    refine AOps.p rfl (s_indexSl (q := k * 14) Try.underlying40 Try.sizeOf23 rfl rfl (by omega) (by omega) (by omega)) ?_
    refine AOps.c rfl (s_loadN (vs := ints (rw_ rs k)) Try.isAgg23 Try.sizeOf23 rfl (by rw [ints_length]; exact rw_len hA (by omega)) (row_part ((hget_append_lt (row_lt hg)).trans hg) (flat_cells hA (by omega)))) ?_
    refine AOps.c rfl (o_call (vs := [.agg (ints (rw_ rs k)).toArray]) rfl Try.call10 (toRound_ok _ _ (rw_len hA (by omega)))) ?_
    refine AOps.p rfl (s_indexSl (q := k * 14) Try.underlying45 Try.sizeOf25 rfl rfl (by omega) (by omega) (by omega)) ?_
    refine AOps.s (s_storeRow (H' := H ++ [AObj.row false (ints ((cpyR (List.replicate 14 0) rs rs.length k).set k (rw_ rs k)).flatten)]) (o := k) (r := (rw_ rs k)) Try.sizeOf25 rfl rfl rfl (own_row rfl) hcA (rw_len hA (by omega)) (by omega) ((set_own _ _ _ _).trans rfl)) ?_
    refine AOps.nil ?_
    refine AWp.region ?_
    refine AOps.p rfl (p_move rfl) ?_
    refine AOps.p rfl (p_add rfl rfl (wr64 (by omega) (by omega))) ?_
    refine AOps.p rfl (p_assign rfl) ?_
    refine AOps.nil ?_
    exact ⟨k + 1, by omega, by omega, Sub.cons' rfl rfl (Sub.cons' rfl rfl (Sub.cons' rfl rfl (Sub.cons' rfl (by first | rfl | (exact int_eq (by omega))) (Sub.nil _)))), by rw [cpyR_set _ _ _ _ (by omega)]⟩
  · have d1 := c1
    try simp only [inB, Bool.and_eq_true, Bool.or_eq_true, Bool.and_eq_false_iff, Bool.or_eq_false_iff, Bool.not_eq_true', Bool.not_eq_false', decide_eq_true_eq, decide_eq_false_iff_not, Int.not_le, Int.not_lt] at d1
    refine AWp.exit ?_
    refine AWp.seq ?_
    refine AWp.region ?_
    refine AOps.p rfl (p_move rfl) ?_
    refine AOps.p rfl (p_assign rfl) ?_
    refine AOps.nil ?_
    refine AWp.ret ?_
    refine ends2 (.inr rfl) (res1 rfl (rv_tmp rfl)) ?_
    -- return 1: .slice (some ⟨H.length + 0, 0, none⟩) (rs.length) (rs.length)
    rw [cpyR_full _ _ _ _ (by omega) rfl]; exact Fin.refl _ _ _

theorem toSchedule_ok (H : AHeap) (tm : Int) (i c : Nat) (ro : Bool) (rs : List (List Int)) (hg : hget H i = .row ro (ints rs.flatten)) (hA : All 14 rs) (hB : rs.length ≤ 1048576) {i' : Nat} {H' : AHeap} (hi : H.length = i') (hH : H ++ [AObj.row false (ints rs.flatten)] = H') : ACall Try.prog 26 ([.agg ([.int .i64 (tm), .slice (some ⟨i, 0, none⟩) (rs.length) (c)]).toArray]) H (.agg [.int .i64 tm, .slice (some ⟨i', 0, none⟩) rs.length rs.length].toArray) H' := by
  subst hi hH
  refine ACall.body (N := 12) [(0, .agg ([.int .i64 (tm), .slice (some ⟨i, 0, none⟩) (rs.length) (c)]).toArray)] Try.func26 rfl rfl rfl rfl ?_
  refine AWp.seq ?_
  refine AWp.region ?_
  refine AOps.c rfl (s_box (i := H.length + 0) (cs := [.int .i64 (tm), .slice (some ⟨i, 0, none⟩) (rs.length) (c)]) rfl rfl rfl rfl) ?_
  refine AOps.c rfl (s_alloc (i := H.length + 1) (cs := [.int .i64 (0), .slice none 0 0]) Try.zeroValue47 rfl rfl (by exact List.length_append) (by exact List.append_assoc _ _ _)) ?_
  refine AOps.nil ?_
  refine AWp.seq ?_
  refine AWp.region ?_
  refine AOps.c rfl (s_alloc (i := H.length + 2) (cs := [.int .i64 (0), .slice none 0 0]) Try.zeroValue47 rfl rfl (by exact List.length_append) (by exact List.append_assoc _ _ _)) ?_
  refine AOps.nil ?_
  refine AWp.seq ?_
  refine AWp.region ?_
  refine AOps.p rfl (s_fieldAddr Try.underlying42 rfl Try.sizeOf2 (by decide) rfl rfl) ?_
  refine AOps.c rfl (s_load Try.isAgg2 rfl (row_cell (own_row rfl) (rfl))) ?_
  refine AOps.p rfl (s_fieldAddr Try.underlying47 rfl Try.sizeOf2 (by decide) rfl rfl) ?_
  refine AOps.s (s_store (H' := H ++ [AObj.row false ([.int .i64 (tm), .slice (some ⟨i, 0, none⟩) (rs.length) (c)]), AObj.row false ([.int .i64 (0), .slice none 0 0]), AObj.row false ([.int .i64 (tm), .slice none 0 0])]) Try.sizeOf2 rfl rfl rfl (own_row rfl) (Nat.le_of_ble_eq_true rfl) ((set_own _ _ _ _).trans rfl)) ?_
  refine AOps.nil ?_
  refine AWp.seq ?_
  refine AWp.region ?_
  refine AOps.p rfl (s_fieldAddr Try.underlying42 rfl Try.sizeOf40 (by decide) rfl rfl) ?_
  refine AOps.c rfl (s_load Try.isAgg40 rfl (row_cell (own_row rfl) (rfl))) ?_
  refine AOps.c rfl (o_call (vs := [.slice (some ⟨i, 0, none⟩) (rs.length) (c)]) rfl Try.call40 (toRoundS_ok _ _ _ _ _ ((hget_append_lt (row_lt hg)).trans hg) hA (by omega) (i' := H.length + 3) (H' := H ++ [AObj.row false ([.int .i64 (tm), .slice (some ⟨i, 0, none⟩) (rs.length) (c)]), AObj.row false ([.int .i64 (0), .slice none 0 0]), AObj.row false ([.int .i64 (tm), .slice none 0 0]), AObj.row false (ints rs.flatten)]) (by exact List.length_append) (by exact List.append_assoc _ _ _))) ?_
  refine AOps.p rfl (s_fieldAddr Try.underlying47 rfl Try.sizeOf45 (by decide) rfl rfl) ?_
  refine AOps.s (s_store (H' := H ++ [AObj.row false ([.int .i64 (tm), .slice (some ⟨i, 0, none⟩) (rs.length) (c)]), AObj.row false ([.int .i64 (0), .slice none 0 0]), AObj.row false ([.int .i64 (tm), .slice (some ⟨H.length + 3, 0, none⟩) (rs.length) (rs.length)]), AObj.row false (ints rs.flatten)]) Try.sizeOf45 rfl rfl rfl (own_row rfl) (Nat.le_of_ble_eq_true rfl) ((set_own _ _ _ _).trans rfl)) ?_
  refine AOps.nil ?_
  refine AWp.seq ?_
  refine AWp.region ?_
  refine AOps.c rfl (s_loadN (vs := [.int .i64 (tm), .slice (some ⟨H.length + 3, 0, none⟩) (rs.length) (rs.length)]) Try.isAgg47 Try.sizeOf47 rfl rfl (row_cells (own_row rfl))) ?_
  refine AOps.s (s_storeAll (H' := H ++ [AObj.row false ([.int .i64 (tm), .slice (some ⟨i, 0, none⟩) (rs.length) (c)]), AObj.row false ([.int .i64 (tm), .slice (some ⟨H.length + 3, 0, none⟩) (rs.length) (rs.length)]), AObj.row false ([.int .i64 (tm), .slice (some ⟨H.length + 3, 0, none⟩) (rs.length) (rs.length)]), AObj.row false (ints rs.flatten)]) Try.sizeOf47 rfl rfl (ones_list rfl) (own_row rfl) rfl rfl ((set_own _ _ _ _).trans rfl)) ?_
  refine AOps.nil ?_
  refine AWp.ret ?_
  refine ends2 (.inr rfl) (res1 rfl (rv_cell (vs := [.int .i64 (tm), .slice (some ⟨H.length + 3, 0, none⟩) (rs.length) (rs.length)]) rfl Try.isAgg47 Try.sizeOf47 rfl (row_cells (own_row rfl)))) ?_
  -- return 1: .agg ([.int .i64 (tm), .slice (some ⟨H.length + 3, 0, none⟩) (rs.length) (rs.length)]).toArray
  exact Fin.one (k := H.length + 3) (fun i hi => hget_append_lt hi) (by omega) (own_row rfl) ints_flat (ren_agg2 (.flat _ (.int _ _)) ren_slice)

theorem eqRound_ok (H : AHeap) (r q : List Int) (hr : r.length = 14) (hq : q.length = 14) : ACall Try.prog 45 ([.agg (ints r).toArray, .agg (ints q).toArray]) H (.bool (decide (r = q))) H := by
  refine ACall.body (N := 17) [(0, .agg (ints r).toArray), (1, .agg (ints q).toArray)] Try.func45 rfl rfl rfl rfl ?_
  refine AWp.seq ?_
  refine AWp.region ?_
  refine AOps.c rfl (s_box (i := H.length + 0) (cs := ints r) rfl rfl rfl rfl) ?_
  refine AOps.c rfl (s_box (i := H.length + 1) (cs := ints q) rfl (by exact List.length_append) rfl (by exact List.append_assoc _ _ _)) ?_
  refine AOps.p rfl (p_assign rfl) ?_
  refine AOps.nil ?_
  refine AWp.seq ?_
  refine AWp.seq ?_
  refine AWp.region ?_
  refine AOps.p rfl (p_assign rfl) ?_
  refine AOps.nil ?_
  refine AWp.block ?_
  refine AWp.round (α := Nat) (fun k => [(0, .agg (ints r).toArray), (1, .agg (ints q).toArray), (2, .pointer (some ⟨H.length + 0, 0, none⟩)), (3, .pointer (some ⟨H.length + 1, 0, none⟩)), (4, .bool false), (5, .int .i64 (((k : Nat) : Int)))]) (fun k => H ++ [AObj.row false (ints r), AObj.row false (ints q)]) (fun k => k ≤ 14 ∧ ∀ j, j < k → rd r j = rd q j) (fun k => 14 - k) 0 ⟨by omega, fun j h => absurd h (Nat.not_lt_zero j)⟩ (Sub.cons' rfl rfl (Sub.cons' rfl rfl (Sub.cons' rfl rfl (Sub.cons' rfl rfl (Sub.cons' rfl rfl (Sub.cons' rfl rfl (Sub.nil _))))))) rfl ?_
  intro k hInv0
  obtain ⟨hk, hI⟩ := hInv0
  refine AWp.sub (t' := [(0, .agg (ints r).toArray), (1, .agg (ints q).toArray), (2, .pointer (some ⟨H.length + 0, 0, none⟩)), (3, .pointer (some ⟨H.length + 1, 0, none⟩)), (4, .bool false), (5, .int .i64 (((k : Nat) : Int)))]) (Sub.refl _) ?_
  refine AWp.heap (H' := H ++ [AObj.row false (ints r), AObj.row false (ints q)]) rfl ?_
  refine AWp.seq ?_
  refine AWp.seq ?_
  refine AWp.region ?_
  refine AOps.p rfl (p_move rfl) ?_
  refine AOps.p rfl (p_lss rfl rfl) ?_
  refine AOps.nil ?_
  refine AWp.cond rfl (fun c1 => ?_) (fun c1 => ?_)
  · have d1 := c1
    try simp only [inB, Bool.and_eq_true, Bool.or_eq_true, Bool.and_eq_false_iff, Bool.or_eq_false_iff, Bool.not_eq_true', Bool.not_eq_false', decide_eq_true_eq, decide_eq_false_iff_not, Int.not_le, Int.not_lt] at d1
    refine AWp.skip ?_
    refine AWp.seq ?_
    refine AWp.block ?_
    refine AWp.cut (fun t' H' => H ++ [AObj.row false (ints r), AObj.row false (ints q)] = H' ∧ Sub [(0, .agg (ints r).toArray), (1, .agg (ints q).toArray), (2, .pointer (some ⟨H.length + 0, 0, none⟩)), (3, .pointer (some ⟨H.length + 1, 0, none⟩)), (4, .bool false), (5, .int .i64 (((k : Nat) : Int))), (7, .bool (decide (((k : Nat) : Int) < 14))), (16, .bool (!decide (rd r k = rd q k)))] t') ?_ ?_
    · refine DTr.start mix ?_
      refine DTr.p rfl rfl (p_move rfl) ?_
      refine DTr.p rfl rfl (s_indexArr (q := k) Try.underlying25 Try.sizeOf2 rfl rfl (by omega) (by omega) (by omega)) ?_
      refine DTr.r rfl rfl (r_load rfl Try.isAgg2) (one_read (row_cell (own_row rfl) (ints_get (by omega))) (.of_flat0 rfl)) ?_
      refine DTr.p rfl rfl (p_move rfl) ?_
      refine DTr.p rfl rfl (s_indexArr (q := k) Try.underlying25 Try.sizeOf2 rfl rfl (by omega) (by omega) (by omega)) ?_
      refine DTr.r rfl rfl (r_load rfl Try.isAgg2) (one_read (row_cell (own_row rfl) (ints_get (by omega))) (.of_flat0 rfl)) ?_
      refine DTr.p rfl rfl (p_neq rfl rfl) ?_
      exact DTr.nil ⟨by kernel_rfl, dyn_noWrite rfl, rfl, Sub.cons' rfl rfl (Sub.cons' rfl rfl (Sub.cons' rfl rfl (Sub.cons' rfl rfl (Sub.cons' rfl rfl (Sub.cons' rfl rfl (Sub.cons' rfl rfl (Sub.cons' rfl rfl (Sub.nil _))))))))⟩
    · rintro t' _ ⟨rfl, hsub⟩
      refine AWp.sub hsub ?_
      refine AWp.cond rfl (fun c2 => ?_) (fun c2 => ?_)
      · have d2 := c2
        try simp only [inB, Bool.and_eq_true, Bool.or_eq_true, Bool.and_eq_false_iff, Bool.or_eq_false_iff, Bool.not_eq_true', Bool.not_eq_false', decide_eq_true_eq, decide_eq_false_iff_not, Int.not_le, Int.not_lt] at d2
        refine AWp.seq ?_
        refine AWp.region ?_
        refine AOps.p rfl (p_assign rfl) ?_
        refine AOps.nil ?_
        refine AWp.ret ?_
        refine ends (.inr rfl) (res1 rfl (rv_tmp rfl)) ?_ (Fin.dropOwn (flatB_ok rfl))
        -- return 1: .bool false
        exact bool_eq (eq_no (by simpa using c2)).symm
      · have d2 := c2
        try simp only [inB, Bool.and_eq_true, Bool.or_eq_true, Bool.and_eq_false_iff, Bool.or_eq_false_iff, Bool.not_eq_true', Bool.not_eq_false', decide_eq_true_eq, decide_eq_false_iff_not, Int.not_le, Int.not_lt] at d2
        refine AWp.skip ?_
        refine AWp.region ?_
        refine AOps.p rfl (p_move rfl) ?_
        refine AOps.p rfl (p_add rfl rfl (wr64 (by omega) (by omega))) ?_
        refine AOps.p rfl (p_assign rfl) ?_
        refine AOps.nil ?_
        exact ⟨k + 1, ⟨by omega, eq_step hI (by simpa using c2)⟩, by omega, Sub.cons' rfl rfl (Sub.cons' rfl rfl (Sub.cons' rfl rfl (Sub.cons' rfl rfl (Sub.cons' rfl rfl (Sub.cons' rfl (by first | rfl | (exact int_eq (by omega))) (Sub.nil _)))))), rfl⟩
  · have d1 := c1
    try simp only [inB, Bool.and_eq_true, Bool.or_eq_true, Bool.and_eq_false_iff, Bool.or_eq_false_iff, Bool.not_eq_true', Bool.not_eq_false', decide_eq_true_eq, decide_eq_false_iff_not, Int.not_le, Int.not_lt] at d1
    refine AWp.exit ?_
    refine AWp.seq ?_
    refine AWp.region ?_
    refine AOps.p rfl (p_assign rfl) ?_
    refine AOps.nil ?_
    refine AWp.ret ?_
    refine ends (.inr rfl) (res1 rfl (rv_tmp rfl)) ?_ (Fin.dropOwn (flatB_ok rfl))
    -- return 2: .bool true
    exact bool_eq (eq_yes hr hq (by omega) hI).symm

theorem eqRoundS_ok (H : AHeap) (i c : Nat) (ro : Bool) (rs : List (List Int)) (hg : hget H i = .row ro (ints rs.flatten)) (hA : All 14 rs) (i₂ c₂ : Nat) (ro₂ : Bool) (qs : List (List Int)) (hg₂ : hget H i₂ = .row ro₂ (ints qs.flatten)) (hA₂ : All 14 qs) (hB : rs.length ≤ 9223372036854775807) (hB₂ : qs.length ≤ 9223372036854775807) : ACall Try.prog 43 ([.slice (some ⟨i, 0, none⟩) (rs.length) (c), .slice (some ⟨i₂, 0, none⟩) (qs.length) (c₂)]) H (.bool (decide (rs = qs))) H := by
  refine ACall.body (N := 27) [(0, .slice (some ⟨i, 0, none⟩) (rs.length) (c)), (1, .slice (some ⟨i₂, 0, none⟩) (qs.length) (c₂))] Try.func43 rfl rfl rfl rfl ?_
  refine AWp.seq ?_
  refine AWp.region ?_
  refine AOps.p rfl (p_assign rfl) ?_
  refine AOps.nil ?_
  refine AWp.seq ?_
  refine AWp.seq ?_
  refine AWp.region ?_
  refine AOps.p rfl (p_move rfl) ?_
  refine AOps.p rfl (p_len_slice rfl Try.underlying45) ?_
  refine AOps.p rfl (p_move rfl) ?_
  refine AOps.p rfl (p_len_slice rfl Try.underlying45) ?_
  refine AOps.p rfl (p_neq rfl rfl) ?_
  refine AOps.nil ?_
  refine AWp.cond rfl (fun c1 => ?_) (fun c1 => ?_)
  · have d1 := c1
    try simp only [inB, Bool.and_eq_true, Bool.or_eq_true, Bool.and_eq_false_iff, Bool.or_eq_false_iff, Bool.not_eq_true', Bool.not_eq_false', decide_eq_true_eq, decide_eq_false_iff_not, Int.not_le, Int.not_lt] at d1
    refine AWp.seq ?_
    refine AWp.region ?_
    refine AOps.p rfl (p_assign rfl) ?_
    refine AOps.nil ?_
    refine AWp.ret ?_
    refine ends (.inr rfl) (res1 rfl (rv_tmp rfl)) ?_ (Fin.refl _ _ _)
    -- return 1: .bool false
    exact bool_eq (decide_eq_false (fun h => by rw [h] at c1; simp at c1)).symm
  · have d1 := c1
    try simp only [inB, Bool.and_eq_true, Bool.or_eq_true, Bool.and_eq_false_iff, Bool.or_eq_false_iff, Bool.not_eq_true', Bool.not_eq_false', decide_eq_true_eq, decide_eq_false_iff_not, Int.not_le, Int.not_lt] at d1
    refine AWp.skip ?_
    refine AWp.seq ?_
    refine AWp.seq ?_
    refine AWp.region ?_
    refine AOps.p rfl (p_assign rfl) ?_
    refine AOps.nil ?_
    refine AWp.block ?_
    refine AWp.round (α := Nat) (fun k => [(0, .slice (some ⟨i, 0, none⟩) (rs.length) (c)), (1, .slice (some ⟨i₂, 0, none⟩) (qs.length) (c₂)), (4, .bool false), (5, .int .i64 (((k : Nat) : Int))), (10, .bool (!decide (((rs.length : Nat) : Int) = ((qs.length : Nat) : Int))))]) (fun k => H) (fun k => k ≤ rs.length ∧ ∀ j, j < k → rw_ rs j = rw_ qs j) (fun k => rs.length - k) 0 ⟨by omega, fun j h => absurd h (Nat.not_lt_zero j)⟩ (Sub.cons' rfl rfl (Sub.cons' rfl rfl (Sub.cons' rfl rfl (Sub.cons' rfl rfl (Sub.cons' rfl rfl (Sub.nil _)))))) rfl ?_
    intro k hInv0
    obtain ⟨hk, hI⟩ := hInv0
    have hlen : rs.length = qs.length := by omega
    refine AWp.sub (t' := [(0, .slice (some ⟨i, 0, none⟩) (rs.length) (c)), (1, .slice (some ⟨i₂, 0, none⟩) (qs.length) (c₂)), (4, .bool false), (5, .int .i64 (((k : Nat) : Int))), (10, .bool (!decide (((rs.length : Nat) : Int) = ((qs.length : Nat) : Int))))]) (Sub.refl _) ?_
    refine AWp.heap (H' := H) rfl ?_
    refine AWp.seq ?_
    refine AWp.seq ?_
    refine AWp.region ?_
    refine AOps.p rfl (p_move rfl) ?_
    refine AOps.p rfl (p_move rfl) ?_
    refine AOps.p rfl (p_len_slice rfl Try.underlying45) ?_
    refine AOps.p rfl (p_lss rfl rfl) ?_
    refine AOps.nil ?_
    refine AWp.cond rfl (fun c2 => ?_) (fun c2 => ?_)
    · have d2 := c2
      try simp only [inB, Bool.and_eq_true, Bool.or_eq_true, Bool.and_eq_false_iff, Bool.or_eq_false_iff, Bool.not_eq_true', Bool.not_eq_false', decide_eq_true_eq, decide_eq_false_iff_not, Int.not_le, Int.not_lt] at d2
      refine AWp.skip ?_
      refine AWp.seq ?_
      refine AWp.block ?_
      refine AWp.cut (fun t' H' => H = H' ∧ Sub [(0, .slice (some ⟨i, 0, none⟩) (rs.length) (c)), (1, .slice (some ⟨i₂, 0, none⟩) (qs.length) (c₂)), (4, .bool false), (5, .int .i64 (((k : Nat) : Int))), (10, .bool (!decide (((rs.length : Nat) : Int) = ((qs.length : Nat) : Int)))), (14, .bool (decide (((k : Nat) : Int) < ((rs.length : Nat) : Int)))), (26, .bool (!(decide ((rw_ rs k) = (rw_ qs k)))))] t') ?_ ?_
      · refine DTr.start mix ?_
        refine DTr.p rfl rfl (p_move rfl) ?_
        refine DTr.p rfl rfl (p_move rfl) ?_
        refine DTr.p rfl rfl (s_indexSl (q := k * 14) Try.underlying45 Try.sizeOf25 rfl rfl (by omega) (by omega) (by omega)) ?_
        refine DTr.r rfl rfl (r_loadN (vs := ints (rw_ rs k)) rfl Try.isAgg25 Try.sizeOf25 (by rw [ints_length]; exact rw_len hA (by omega))) (many_part (row_part (hg) (flat_cells hA (by omega))) ints_flat) ?_
        refine DTr.p rfl rfl (p_move rfl) ?_
        refine DTr.p rfl rfl (p_move rfl) ?_
        refine DTr.p rfl rfl (s_indexSl (q := k * 14) Try.underlying45 Try.sizeOf25 rfl rfl (by omega) (by omega) (by omega)) ?_
        refine DTr.r rfl rfl (r_loadN (vs := ints (rw_ qs k)) rfl Try.isAgg25 Try.sizeOf25 (by rw [ints_length]; exact rw_len hA₂ (by omega))) (many_part (row_part (hg₂) (flat_cells hA₂ (by omega))) ints_flat) ?_
        refine DTr.w rfl rfl (o_call (vs := [.agg (ints (rw_ rs k)).toArray, .agg (ints (rw_ qs k)).toArray]) rfl Try.call45 (eqRound_ok _ _ _ (rw_len hA (by omega)) (rw_len hA₂ (by omega)))) (Nat.le_refl _) ?_
        refine DTr.p rfl rfl (p_not rfl) ?_
        exact DTr.nil ⟨by kernel_rfl, dyn_same rfl (by intro f hf; simp at hf; rcases hf with rfl | rfl | rfl | rfl | rfl | rfl | rfl | rfl | rfl | rfl <;> first | (intro h; cases h; done) | (intro _; rfl)), rfl, Sub.cons' rfl rfl (Sub.cons' rfl rfl (Sub.cons' rfl rfl (Sub.cons' rfl rfl (Sub.cons' rfl rfl (Sub.cons' rfl rfl (Sub.cons' rfl rfl (Sub.nil _)))))))⟩
      · rintro t' _ ⟨rfl, hsub⟩
        refine AWp.sub hsub ?_
        refine AWp.cond rfl (fun c3 => ?_) (fun c3 => ?_)
        · have d3 := c3
          try simp only [inB, Bool.and_eq_true, Bool.or_eq_true, Bool.and_eq_false_iff, Bool.or_eq_false_iff, Bool.not_eq_true', Bool.not_eq_false', decide_eq_true_eq, decide_eq_false_iff_not, Int.not_le, Int.not_lt] at d3
          refine AWp.seq ?_
          refine AWp.region ?_
          refine AOps.p rfl (p_assign rfl) ?_
          refine AOps.nil ?_
          refine AWp.ret ?_
          refine ends (.inr rfl) (res1 rfl (rv_tmp rfl)) ?_ (Fin.refl _ _ _)
          -- return 2: .bool false
          exact bool_eq (decide_eq_false (fun h => by rw [h] at c3; simp at c3)).symm
        · have d3 := c3
          try simp only [inB, Bool.and_eq_true, Bool.or_eq_true, Bool.and_eq_false_iff, Bool.or_eq_false_iff, Bool.not_eq_true', Bool.not_eq_false', decide_eq_true_eq, decide_eq_false_iff_not, Int.not_le, Int.not_lt] at d3
          refine AWp.skip ?_
          refine AWp.region ?_
          refine AOps.p rfl (p_move rfl) ?_
          refine AOps.p rfl (p_add rfl rfl (wr64 (by omega) (by omega))) ?_
          refine AOps.p rfl (p_assign rfl) ?_
          refine AOps.nil ?_
          exact ⟨k + 1, ⟨by omega, eq_stepR hI (by simpa using c3)⟩, by omega, Sub.cons' rfl rfl (Sub.cons' rfl rfl (Sub.cons' rfl rfl (Sub.cons' rfl (by first | rfl | (exact int_eq (by omega))) (Sub.cons' rfl rfl (Sub.nil _))))), rfl⟩
    · have d2 := c2
      try simp only [inB, Bool.and_eq_true, Bool.or_eq_true, Bool.and_eq_false_iff, Bool.or_eq_false_iff, Bool.not_eq_true', Bool.not_eq_false', decide_eq_true_eq, decide_eq_false_iff_not, Int.not_le, Int.not_lt] at d2
      refine AWp.exit ?_
      refine AWp.seq ?_
      refine AWp.region ?_
      refine AOps.p rfl (p_assign rfl) ?_
      refine AOps.nil ?_
      refine AWp.ret ?_
      refine ends (.inr rfl) (res1 rfl (rv_tmp rfl)) ?_ (Fin.refl _ _ _)
      -- return 3: .bool true
      exact bool_eq (decide_eq_true (rows_eq hlen (fun j hj => hI j (by omega)))).symm

theorem eqSchedule_ok (H : AHeap) (tm tn : Int) (i c : Nat) (ro : Bool) (rs : List (List Int)) (hg : hget H i = .row ro (ints rs.flatten)) (hA : All 14 rs) (i₂ c₂ : Nat) (ro₂ : Bool) (qs : List (List Int)) (hg₂ : hget H i₂ = .row ro₂ (ints qs.flatten)) (hA₂ : All 14 qs) (hB : rs.length ≤ 9223372036854775807) (hB₂ : qs.length ≤ 9223372036854775807) : ACall Try.prog 28 ([.agg ([.int .i64 (tm), .slice (some ⟨i, 0, none⟩) (rs.length) (c)]).toArray, .agg ([.int .i64 (tn), .slice (some ⟨i₂, 0, none⟩) (qs.length) (c₂)]).toArray]) H (.bool (decide (tm = tn) && decide (rs = qs))) H := by
  refine ACall.body (N := 16) [(0, .agg ([.int .i64 (tm), .slice (some ⟨i, 0, none⟩) (rs.length) (c)]).toArray), (1, .agg ([.int .i64 (tn), .slice (some ⟨i₂, 0, none⟩) (qs.length) (c₂)]).toArray)] Try.func28 rfl rfl rfl rfl ?_
  refine AWp.seq ?_
  refine AWp.region ?_
  refine AOps.c rfl (s_box (i := H.length + 0) (cs := [.int .i64 (tm), .slice (some ⟨i, 0, none⟩) (rs.length) (c)]) rfl rfl rfl rfl) ?_
  refine AOps.c rfl (s_box (i := H.length + 1) (cs := [.int .i64 (tn), .slice (some ⟨i₂, 0, none⟩) (qs.length) (c₂)]) rfl (by exact List.length_append) rfl (by exact List.append_assoc _ _ _)) ?_
  refine AOps.p rfl (p_assign rfl) ?_
  refine AOps.nil ?_
  refine AWp.seq ?_
  refine AWp.seq ?_
  refine AWp.region ?_
  refine AOps.p rfl (s_fieldAddr Try.underlying47 rfl Try.sizeOf2 (by decide) rfl rfl) ?_
  refine AOps.c rfl (s_load Try.isAgg2 rfl (row_cell (own_row rfl) (rfl))) ?_
  refine AOps.p rfl (s_fieldAddr Try.underlying47 rfl Try.sizeOf2 (by decide) rfl rfl) ?_
  refine AOps.c rfl (s_load Try.isAgg2 rfl (row_cell (own_row rfl) (rfl))) ?_
  refine AOps.p rfl (p_neq rfl rfl) ?_
  refine AOps.nil ?_
  refine AWp.cond rfl (fun c1 => ?_) (fun c1 => ?_)
  · have d1 := c1
    try simp only [inB, Bool.and_eq_true, Bool.or_eq_true, Bool.and_eq_false_iff, Bool.or_eq_false_iff, Bool.not_eq_true', Bool.not_eq_false', decide_eq_true_eq, decide_eq_false_iff_not, Int.not_le, Int.not_lt] at d1
    refine AWp.seq ?_
    refine AWp.region ?_
    refine AOps.p rfl (p_assign rfl) ?_
    refine AOps.nil ?_
    refine AWp.ret ?_
    refine ends (.inr rfl) (res1 rfl (rv_tmp rfl)) ?_ (Fin.dropOwn (flatB_ok rfl))
    -- return 1: .bool false
    exact bool_eq (by simp only [Bool.not_eq_true', decide_eq_false_iff_not] at c1; simp [c1])
  · have d1 := c1
    try simp only [inB, Bool.and_eq_true, Bool.or_eq_true, Bool.and_eq_false_iff, Bool.or_eq_false_iff, Bool.not_eq_true', Bool.not_eq_false', decide_eq_true_eq, decide_eq_false_iff_not, Int.not_le, Int.not_lt] at d1
    refine AWp.skip ?_
    refine AWp.seq ?_
    refine AWp.seq ?_
    refine AWp.region ?_
    refine AOps.p rfl (s_fieldAddr Try.underlying47 rfl Try.sizeOf45 (by decide) rfl rfl) ?_
    refine AOps.c rfl (s_load Try.isAgg45 rfl (row_cell (own_row rfl) (rfl))) ?_
    refine AOps.p rfl (s_fieldAddr Try.underlying47 rfl Try.sizeOf45 (by decide) rfl rfl) ?_
    refine AOps.c rfl (s_load Try.isAgg45 rfl (row_cell (own_row rfl) (rfl))) ?_
    refine AOps.c rfl (o_call (vs := [.slice (some ⟨i, 0, none⟩) (rs.length) (c), .slice (some ⟨i₂, 0, none⟩) (qs.length) (c₂)]) rfl Try.call43 (eqRoundS_ok _ _ _ _ _ ((hget_append_lt (row_lt hg)).trans hg) hA _ _ _ _ ((hget_append_lt (row_lt hg₂)).trans hg₂) hA₂ (by omega) (by omega))) ?_
    refine AOps.p rfl (p_not rfl) ?_
    refine AOps.nil ?_
    refine AWp.cond rfl (fun c2 => ?_) (fun c2 => ?_)
    · have d2 := c2
      try simp only [inB, Bool.and_eq_true, Bool.or_eq_true, Bool.and_eq_false_iff, Bool.or_eq_false_iff, Bool.not_eq_true', Bool.not_eq_false', decide_eq_true_eq, decide_eq_false_iff_not, Int.not_le, Int.not_lt] at d2
      refine AWp.seq ?_
      refine AWp.region ?_
      refine AOps.p rfl (p_assign rfl) ?_
      refine AOps.nil ?_
      refine AWp.ret ?_
      refine ends (.inr rfl) (res1 rfl (rv_tmp rfl)) ?_ (Fin.dropOwn (flatB_ok rfl))
      -- return 2: .bool false
      exact bool_eq (by simp at c1 c2; simp [c1, c2])
    · have d2 := c2
      try simp only [inB, Bool.and_eq_true, Bool.or_eq_true, Bool.and_eq_false_iff, Bool.or_eq_false_iff, Bool.not_eq_true', Bool.not_eq_false', decide_eq_true_eq, decide_eq_false_iff_not, Int.not_le, Int.not_lt] at d2
      refine AWp.skip ?_
      refine AWp.seq ?_
      refine AWp.region ?_
      refine AOps.p rfl (p_assign rfl) ?_
      refine AOps.nil ?_
      refine AWp.ret ?_
      refine ends (.inr rfl) (res1 rfl (rv_tmp rfl)) ?_ (Fin.dropOwn (flatB_ok rfl))
      -- return 3: .bool true
      exact bool_eq (by simp at c1 c2; simp [c1, c2])

theorem l01Is_ok (H : AHeap) (tm : Int) (i c : Nat) (ro : Bool) (rs : List (List Int)) (hg : hget H i = .row ro (ints rs.flatten)) (hA : All 14 rs) (hB : rs.length ≤ 9223372036854775807) : ACall Try.prog 39 ([.agg ([.int .i64 (tm), .slice (some ⟨i, 0, none⟩) (rs.length) (c)]).toArray]) H (.bool (isSch tm rs)) H := by
  refine ACall.body (N := 30) [(0, .agg ([.int .i64 (tm), .slice (some ⟨i, 0, none⟩) (rs.length) (c)]).toArray)] Try.func39 rfl rfl rfl rfl ?_
  refine AWp.seq ?_
  refine AWp.region ?_
  refine AOps.c rfl (s_box (i := H.length + 0) (cs := [.int .i64 (tm), .slice (some ⟨i, 0, none⟩) (rs.length) (c)]) rfl rfl rfl rfl) ?_
  refine AOps.p rfl (p_assign rfl) ?_
  refine AOps.nil ?_
  refine AWp.seq ?_
  refine AWp.cut (fun t' H' => H ++ [AObj.row false ([.int .i64 (tm), .slice (some ⟨i, 0, none⟩) (rs.length) (c)])] = H' ∧ Sub [(0, .agg ([.int .i64 (tm), .slice (some ⟨i, 0, none⟩) (rs.length) (c)]).toArray), (1, .pointer (some ⟨H.length + 0, 0, none⟩)), (2, .bool false), (13, .bool ((!(inB tm 2 14)) || (decide (40 < ((rs.length : Nat) : Int)))))] t') ?_ ?_
  · refine AWp.region ?_
    refine AOps.p rfl (s_fieldAddr Try.underlying47 rfl Try.sizeOf2 (by decide) rfl rfl) ?_
    refine AOps.c rfl (s_load Try.isAgg2 rfl (row_cell (own_row rfl) (rfl))) ?_
    refine AOps.c rfl (o_call (vs := [.int .i64 (tm), .int .i64 (2), .int .i64 (14)]) rfl Try.call34 (l01In_ok _ _ _ _)) ?_
    refine AOps.p rfl (p_not rfl) ?_
    refine AOps.p rfl (p_move rfl) ?_
    refine AOps.cases (d := 8) rfl (fun c1 => ?_) (fun c1 => ?_)
    · have d1 := c1
      try simp only [inB, Bool.and_eq_true, Bool.or_eq_true, Bool.and_eq_false_iff, Bool.or_eq_false_iff, Bool.not_eq_true', Bool.not_eq_false', decide_eq_true_eq, decide_eq_false_iff_not, Int.not_le, Int.not_lt] at d1
      refine AOps.gn rfl rfl rfl ?_
      refine AOps.gn rfl rfl rfl ?_
      refine AOps.gn rfl rfl rfl ?_
      refine AOps.gn rfl rfl rfl ?_
      refine AOps.p rfl (p_pickT rfl rfl) ?_
      refine AOps.nil ?_
      exact ⟨rfl, Sub.cons' rfl rfl (Sub.cons' rfl rfl (Sub.cons' rfl rfl (Sub.cons' rfl (bool_eq (by simp only [c1, Bool.true_and, Bool.false_and, Bool.and_true, Bool.and_false, Bool.true_or, Bool.false_or, Bool.or_true, Bool.or_false, Bool.not_true, Bool.not_false, cond_true, cond_false])) (Sub.nil _))))⟩
    · have d1 := c1
      try simp only [inB, Bool.and_eq_true, Bool.or_eq_true, Bool.and_eq_false_iff, Bool.or_eq_false_iff, Bool.not_eq_true', Bool.not_eq_false', decide_eq_true_eq, decide_eq_false_iff_not, Int.not_le, Int.not_lt] at d1
      refine AOps.gp rfl rfl rfl (s_fieldAddr Try.underlying47 rfl Try.sizeOf45 (by decide) rfl rfl) ?_
      refine AOps.gc rfl rfl rfl (s_load Try.isAgg45 rfl (row_cell (own_row rfl) (rfl))) ?_
      refine AOps.gp rfl rfl rfl (p_len_slice rfl Try.underlying45) ?_
      refine AOps.gp rfl rfl rfl (p_gtr rfl rfl) ?_
      refine AOps.p rfl (p_pickF rfl rfl) ?_
      refine AOps.nil ?_
      exact ⟨rfl, Sub.cons' rfl rfl (Sub.cons' rfl rfl (Sub.cons' rfl rfl (Sub.cons' rfl (bool_eq (by simp only [c1, Bool.true_and, Bool.false_and, Bool.and_true, Bool.and_false, Bool.true_or, Bool.false_or, Bool.or_true, Bool.or_false, Bool.not_true, Bool.not_false, cond_true, cond_false])) (Sub.nil _))))⟩
  · rintro t' _ ⟨rfl, hsub⟩
    refine AWp.sub hsub ?_
    refine AWp.cond rfl (fun c2 => ?_) (fun c2 => ?_)
    · have d2 := c2
      try simp only [inB, Bool.and_eq_true, Bool.or_eq_true, Bool.and_eq_false_iff, Bool.or_eq_false_iff, Bool.not_eq_true', Bool.not_eq_false', decide_eq_true_eq, decide_eq_false_iff_not, Int.not_le, Int.not_lt] at d2
      refine AWp.seq ?_
      refine AWp.region ?_
      refine AOps.p rfl (p_assign rfl) ?_
      refine AOps.nil ?_
      refine AWp.ret ?_
      refine ends (.inr rfl) (res1 rfl (rv_tmp rfl)) ?_ (Fin.dropOwn (flatB_ok rfl))
      -- return 1: .bool false
      exact bool_eq (isSch_no (by rcases d2 with h | h; exact .inl (inB_no h); exact .inr (by omega))).symm
    · have d2 := c2
      try simp only [inB, Bool.and_eq_true, Bool.or_eq_true, Bool.and_eq_false_iff, Bool.or_eq_false_iff, Bool.not_eq_true', Bool.not_eq_false', decide_eq_true_eq, decide_eq_false_iff_not, Int.not_le, Int.not_lt] at d2
      refine AWp.skip ?_
      refine AWp.seq ?_
      refine AWp.seq ?_
      refine AWp.region ?_
      refine AOps.p rfl (p_assign rfl) ?_
      refine AOps.nil ?_
      refine AWp.block ?_
      refine AWp.round (α := Nat) (fun k => [(0, .agg ([.int .i64 (tm), .slice (some ⟨i, 0, none⟩) (rs.length) (c)]).toArray), (1, .pointer (some ⟨H.length + 0, 0, none⟩)), (2, .bool false), (3, .int .i64 (((k : Nat) : Int))), (13, .bool ((!(inB tm 2 14)) || (decide (40 < ((rs.length : Nat) : Int)))))]) (fun k => H ++ [AObj.row false ([.int .i64 (tm), .slice (some ⟨i, 0, none⟩) (rs.length) (c)])]) (fun k => k ≤ rs.length ∧ ∀ j, j < k → isRnd tm (rw_ rs j) = true) (fun k => rs.length - k) 0 ⟨by omega, fun j h => absurd h (Nat.not_lt_zero j)⟩ (Sub.cons' rfl rfl (Sub.cons' rfl rfl (Sub.cons' rfl rfl (Sub.cons' rfl rfl (Sub.cons' rfl rfl (Sub.nil _)))))) rfl ?_
      intro k hInv0
      obtain ⟨hk, hI⟩ := hInv0
      refine AWp.sub (t' := [(0, .agg ([.int .i64 (tm), .slice (some ⟨i, 0, none⟩) (rs.length) (c)]).toArray), (1, .pointer (some ⟨H.length + 0, 0, none⟩)), (2, .bool false), (3, .int .i64 (((k : Nat) : Int))), (13, .bool ((!(inB tm 2 14)) || (decide (40 < ((rs.length : Nat) : Int)))))]) (Sub.refl _) ?_
      refine AWp.heap (H' := H ++ [AObj.row false ([.int .i64 (tm), .slice (some ⟨i, 0, none⟩) (rs.length) (c)])]) rfl ?_
      refine AWp.seq ?_
      refine AWp.seq ?_
      refine AWp.region ?_
      refine AOps.p rfl (p_move rfl) ?_
      refine AOps.p rfl (s_fieldAddr Try.underlying47 rfl Try.sizeOf45 (by decide) rfl rfl) ?_
      refine AOps.c rfl (s_load Try.isAgg45 rfl (row_cell (own_row rfl) (rfl))) ?_
      refine AOps.p rfl (p_len_slice rfl Try.underlying45) ?_
      refine AOps.p rfl (p_lss rfl rfl) ?_
      refine AOps.nil ?_
      refine AWp.cond rfl (fun c3 => ?_) (fun c3 => ?_)
      · have d3 := c3
        try simp only [inB, Bool.and_eq_true, Bool.or_eq_true, Bool.and_eq_false_iff, Bool.or_eq_false_iff, Bool.not_eq_true', Bool.not_eq_false', decide_eq_true_eq, decide_eq_false_iff_not, Int.not_le, Int.not_lt] at d3
        refine AWp.skip ?_
        refine AWp.seq ?_
        refine AWp.block ?_
        refine AWp.cut (fun t' H' => H ++ [AObj.row false ([.int .i64 (tm), .slice (some ⟨i, 0, none⟩) (rs.length) (c)])] = H' ∧ Sub [(0, .agg ([.int .i64 (tm), .slice (some ⟨i, 0, none⟩) (rs.length) (c)]).toArray), (1, .pointer (some ⟨H.length + 0, 0, none⟩)), (2, .bool false), (3, .int .i64 (((k : Nat) : Int))), (13, .bool ((!(inB tm 2 14)) || (decide (40 < ((rs.length : Nat) : Int))))), (18, .bool (decide (((k : Nat) : Int) < ((rs.length : Nat) : Int)))), (29, .bool (!(isRnd tm (rw_ rs k))))] t') ?_ ?_
        · refine DTr.start mix ?_
          refine DTr.p rfl rfl (s_fieldAddr Try.underlying47 rfl Try.sizeOf2 (by decide) rfl rfl) ?_
          refine DTr.r rfl rfl (r_load rfl Try.isAgg2) (one_read (row_cell (own_row rfl) (rfl)) (.of_flat0 rfl)) ?_
          refine DTr.p rfl rfl (s_fieldAddr Try.underlying47 rfl Try.sizeOf45 (by decide) rfl rfl) ?_
          refine DTr.r rfl rfl (r_load rfl Try.isAgg45) (one_read (row_cell (own_row rfl) (rfl)) (.slice _ _ _ _ (by have hb := (row_lt hg); first | omega | (simp only [List.length_append, List.length_cons, List.length_nil]; omega)))) ?_
          refine DTr.p rfl rfl (p_move rfl) ?_
          refine DTr.p rfl rfl (s_indexSl (q := k * 14) Try.underlying45 Try.sizeOf25 rfl rfl (by omega) (by omega) (by omega)) ?_
          refine DTr.r rfl rfl (r_loadN (vs := ints (rw_ rs k)) rfl Try.isAgg25 Try.sizeOf25 (by rw [ints_length]; exact rw_len hA (by omega))) (many_part (row_part ((hget_append_lt (row_lt hg)).trans hg) (flat_cells hA (by omega))) ints_flat) ?_
          refine DTr.w rfl rfl (o_call (vs := [.int .i64 (tm), .agg (ints (rw_ rs k)).toArray]) rfl Try.call29 (l01Round_ok _ _ _ (rw_len hA (by omega)))) (Nat.le_refl _) ?_
          refine DTr.p rfl rfl (p_not rfl) ?_
          exact DTr.nil ⟨by kernel_rfl, dyn_same rfl (by intro f hf; simp at hf; rcases hf with rfl | rfl | rfl | rfl | rfl | rfl | rfl | rfl | rfl <;> first | (intro h; cases h; done) | (intro _; rfl)), rfl, Sub.cons' rfl rfl (Sub.cons' rfl rfl (Sub.cons' rfl rfl (Sub.cons' rfl rfl (Sub.cons' rfl rfl (Sub.cons' rfl rfl (Sub.cons' rfl rfl (Sub.nil _)))))))⟩
        · rintro t' _ ⟨rfl, hsub⟩
          refine AWp.sub hsub ?_
          refine AWp.cond rfl (fun c4 => ?_) (fun c4 => ?_)
          · have d4 := c4
            try simp only [inB, Bool.and_eq_true, Bool.or_eq_true, Bool.and_eq_false_iff, Bool.or_eq_false_iff, Bool.not_eq_true', Bool.not_eq_false', decide_eq_true_eq, decide_eq_false_iff_not, Int.not_le, Int.not_lt] at d4
            refine AWp.seq ?_
            refine AWp.region ?_
            refine AOps.p rfl (p_assign rfl) ?_
            refine AOps.nil ?_
            refine AWp.ret ?_
            refine ends (.inr rfl) (res1 rfl (rv_tmp rfl)) ?_ (Fin.dropOwn (flatB_ok rfl))
            -- return 2: .bool false
            exact bool_eq (isSch_at (k := k) (by omega) (by simpa using c4)).symm
          · have d4 := c4
            try simp only [inB, Bool.and_eq_true, Bool.or_eq_true, Bool.and_eq_false_iff, Bool.or_eq_false_iff, Bool.not_eq_true', Bool.not_eq_false', decide_eq_true_eq, decide_eq_false_iff_not, Int.not_le, Int.not_lt] at d4
            refine AWp.skip ?_
            refine AWp.region ?_
            refine AOps.p rfl (p_move rfl) ?_
            refine AOps.p rfl (p_add rfl rfl (wr64 (by omega) (by omega))) ?_
            refine AOps.p rfl (p_assign rfl) ?_
            refine AOps.nil ?_
            exact ⟨k + 1, ⟨by omega, step_ hI (by simpa using c4)⟩, by omega, Sub.cons' rfl rfl (Sub.cons' rfl rfl (Sub.cons' rfl rfl (Sub.cons' rfl (by first | rfl | (exact int_eq (by omega))) (Sub.cons' rfl rfl (Sub.nil _))))), rfl⟩
      · have d3 := c3
        try simp only [inB, Bool.and_eq_true, Bool.or_eq_true, Bool.and_eq_false_iff, Bool.or_eq_false_iff, Bool.not_eq_true', Bool.not_eq_false', decide_eq_true_eq, decide_eq_false_iff_not, Int.not_le, Int.not_lt] at d3
        refine AWp.exit ?_
        refine AWp.seq ?_
        refine AWp.region ?_
        refine AOps.p rfl (p_assign rfl) ?_
        refine AOps.nil ?_
        refine AWp.ret ?_
        refine ends (.inr rfl) (res1 rfl (rv_tmp rfl)) ?_ (Fin.dropOwn (flatB_ok rfl))
        -- return 3: .bool true
        exact bool_eq (isSch_all (⟨by simp [inB]; omega, by omega⟩) (fun j hj => hI j (by omega))).symm

theorem sIsSchedule_ok (H : AHeap) (tm : Int) (i c : Nat) (ro : Bool) (rs : List (List Int)) (hg : hget H i = .row ro (ints rs.flatten)) (hA : All 14 rs) (hB : rs.length ≤ 9223372036854775807) : ACall Try.prog 25 ([.agg ([.int .i64 (tm), .slice (some ⟨i, 0, none⟩) (rs.length) (c)]).toArray]) H (.bool (isSch tm rs)) H := by
  refine ACall.body (N := 5) [(0, .agg ([.int .i64 (tm), .slice (some ⟨i, 0, none⟩) (rs.length) (c)]).toArray)] Try.func25 rfl rfl rfl rfl ?_
  refine AWp.seq ?_
  refine AWp.region ?_
  refine AOps.c rfl (s_box (i := H.length + 0) (cs := [.int .i64 (tm), .slice (some ⟨i, 0, none⟩) (rs.length) (c)]) rfl rfl rfl rfl) ?_
  refine AOps.p rfl (p_assign rfl) ?_
  refine AOps.nil ?_
  refine AWp.seq ?_
  refine AWp.region ?_
  refine AOps.c rfl (s_loadN (vs := [.int .i64 (tm), .slice (some ⟨i, 0, none⟩) (rs.length) (c)]) Try.isAgg47 Try.sizeOf47 rfl rfl (row_cells (own_row rfl))) ?_
  refine AOps.c rfl (o_call (vs := [.agg ([.int .i64 (tm), .slice (some ⟨i, 0, none⟩) (rs.length) (c)]).toArray]) rfl Try.call39 (l01Is_ok _ _ _ _ _ _ ((hget_append_lt (row_lt hg)).trans hg) hA (by omega))) ?_
  refine AOps.p rfl (p_assign rfl) ?_
  refine AOps.nil ?_
  refine AWp.ret ?_
  refine ends (.inr rfl) (res1 rfl (rv_tmp rfl)) ?_ (Fin.dropOwn (flatB_ok rfl))
  -- return 1: .bool (isSch tm rs)
  exact rfl

theorem idxR_ok (H : AHeap) (i c : Nat) (ro : Bool) (rs : List (List Int)) (hg : hget H i = .row ro (ints rs.flatten)) (hA : All 14 rs) (hB : rs.length ≤ 9223372036854775807) (f : FuncId) (fs cs : Array Value) (hcf : ∀ args w, (callFunc f args).run Try.prog w = .ok (.enter f args) w) (p : List Int → Bool) (hp : ∀ r ∈ rs, ACall Try.prog f (fs.toList ++ [.agg (ints r).toArray] ++ cs.toList) H (.bool (p r)) H) : ACall Try.prog 44 ([.slice (some ⟨i, 0, none⟩) (rs.length) (c), .func (.func f) fs cs]) H (.int .i64 (idxR p rs)) H := by
  refine ACall.body (N := 19) [(0, .slice (some ⟨i, 0, none⟩) (rs.length) (c)), (1, .func (.func f) fs cs)] Try.func44 rfl rfl rfl rfl ?_
  refine AWp.seq ?_
  refine AWp.region ?_
  refine AOps.p rfl (p_assign rfl) ?_
  refine AOps.nil ?_
  refine AWp.seq ?_
  refine AWp.seq ?_
  refine AWp.region ?_
  refine AOps.p rfl (p_move rfl) ?_
  refine AOps.p rfl (p_len_slice rfl Try.underlying45) ?_
  refine AOps.p rfl (p_move rfl) ?_
  refine AOps.nil ?_
  refine AWp.block ?_
  refine AWp.round (α := Nat) (fun k => [(0, .slice (some ⟨i, 0, none⟩) (rs.length) (c)), (1, .func (.func f) fs cs), (4, .int .i64 (0)), (7, .int .i64 (((rs.length : Nat) : Int))), (8, .int .i64 (((k : Nat) : Int)))]) (fun k => H) (fun k => k ≤ rs.length ∧ ∀ j, j < k → p (rw_ rs j) = false) (fun k => rs.length - k) 0 ⟨by omega, fun j h => absurd h (Nat.not_lt_zero j)⟩ (Sub.cons' rfl rfl (Sub.cons' rfl rfl (Sub.cons' rfl rfl (Sub.cons' rfl rfl (Sub.cons' rfl rfl (Sub.nil _)))))) rfl ?_
  intro k hInv0
  obtain ⟨hk, hI⟩ := hInv0
  refine AWp.sub (t' := [(0, .slice (some ⟨i, 0, none⟩) (rs.length) (c)), (1, .func (.func f) fs cs), (4, .int .i64 (0)), (7, .int .i64 (((rs.length : Nat) : Int))), (8, .int .i64 (((k : Nat) : Int)))]) (Sub.refl _) ?_
  refine AWp.heap (H' := H) rfl ?_
  refine AWp.seq ?_
  refine AWp.region ?_
  refine AOps.p rfl (p_lss rfl rfl) ?_
  refine AOps.nil ?_
  refine AWp.seq ?_
  refine AWp.cond rfl (fun c1 => ?_) (fun c1 => ?_)
  · have d1 := c1
    try simp only [inB, Bool.and_eq_true, Bool.or_eq_true, Bool.and_eq_false_iff, Bool.or_eq_false_iff, Bool.not_eq_true', Bool.not_eq_false', decide_eq_true_eq, decide_eq_false_iff_not, Int.not_le, Int.not_lt] at d1
    refine AWp.skip ?_
    refine AWp.seq ?_
    refine AWp.block ?_
    refine AWp.seq ?_
    refine AWp.region ?_
    refine AOps.p rfl (p_move rfl) ?_
    refine AOps.p rfl (p_assign rfl) ?_
    refine AOps.nil ?_
    refine AWp.seq ?_
    refine AWp.region ?_
    refine AOps.p rfl (p_move rfl) ?_
    refine AOps.p rfl (p_move rfl) ?_
    refine AOps.p rfl (p_move rfl) ?_
    refine AOps.p rfl (s_indexSl (q := k * 14) Try.underlying45 Try.sizeOf25 rfl rfl (by omega) (by omega) (by omega)) ?_
    refine AOps.c rfl (s_loadN (vs := ints (rw_ rs k)) Try.isAgg25 Try.sizeOf25 rfl (by rw [ints_length]; exact rw_len hA (by omega)) (row_part (hg) (flat_cells hA (by omega)))) ?_
    refine AOps.c rfl (o_callV (vs := [.agg (ints (rw_ rs k)).toArray]) rfl rfl hcf (hp _ (rw_mem (by omega)))) ?_
    refine AOps.nil ?_
    refine AWp.cond rfl (fun c2 => ?_) (fun c2 => ?_)
    · have d2 := c2
      try simp only [inB, Bool.and_eq_true, Bool.or_eq_true, Bool.and_eq_false_iff, Bool.or_eq_false_iff, Bool.not_eq_true', Bool.not_eq_false', decide_eq_true_eq, decide_eq_false_iff_not, Int.not_le, Int.not_lt] at d2
      refine AWp.seq ?_
      refine AWp.region ?_
      refine AOps.p rfl (p_move rfl) ?_
      refine AOps.p rfl (p_assign rfl) ?_
      refine AOps.nil ?_
      refine AWp.ret ?_
      refine ends (.inr rfl) (res1 rfl (rv_tmp rfl)) ?_ (Fin.refl _ _ _)
      -- return 1: .int .i64 (((k : Nat) : Int))
      exact int_eq (idxR_at hI (by omega) c2).symm
    · have d2 := c2
      try simp only [inB, Bool.and_eq_true, Bool.or_eq_true, Bool.and_eq_false_iff, Bool.or_eq_false_iff, Bool.not_eq_true', Bool.not_eq_false', decide_eq_true_eq, decide_eq_false_iff_not, Int.not_le, Int.not_lt] at d2
      refine AWp.skip ?_
      refine AWp.region ?_
      refine AOps.p rfl (p_add rfl rfl (wr64 (by omega) (by omega))) ?_
      refine AOps.p rfl (p_move rfl) ?_
      refine AOps.nil ?_
      exact ⟨k + 1, ⟨by omega, step_ hI c2⟩, by omega, Sub.cons' rfl rfl (Sub.cons' rfl rfl (Sub.cons' rfl rfl (Sub.cons' rfl rfl (Sub.cons' rfl (by first | rfl | (exact int_eq (by omega))) (Sub.nil _))))), rfl⟩
  · have d1 := c1
    try simp only [inB, Bool.and_eq_true, Bool.or_eq_true, Bool.and_eq_false_iff, Bool.or_eq_false_iff, Bool.not_eq_true', Bool.not_eq_false', decide_eq_true_eq, decide_eq_false_iff_not, Int.not_le, Int.not_lt] at d1
    refine AWp.exit ?_
    refine AWp.seq ?_
    refine AWp.region ?_
    refine AOps.p rfl (p_assign rfl) ?_
    refine AOps.nil ?_
    refine AWp.ret ?_
    refine ends (.inr rfl) (res1 rfl (rv_tmp rfl)) ?_ (Fin.refl _ _ _)
    -- return 2: .int .i64 ((-1))
    exact int_eq (idxR_none (fun j hj => hI j (by omega))).symm

theorem anyR_ok (H : AHeap) (i c : Nat) (ro : Bool) (rs : List (List Int)) (hg : hget H i = .row ro (ints rs.flatten)) (hA : All 14 rs) (hB : rs.length ≤ 9223372036854775807) (f : FuncId) (fs cs : Array Value) (hcf : ∀ args w, (callFunc f args).run Try.prog w = .ok (.enter f args) w) (p : List Int → Bool) (hp : ∀ r ∈ rs, ACall Try.prog f (fs.toList ++ [.agg (ints r).toArray] ++ cs.toList) H (.bool (p r)) H) : ACall Try.prog 41 ([.slice (some ⟨i, 0, none⟩) (rs.length) (c), .func (.func f) fs cs]) H (.bool (rs.any p)) H := by
  refine ACall.body (N := 9) [(0, .slice (some ⟨i, 0, none⟩) (rs.length) (c)), (1, .func (.func f) fs cs)] Try.func41 rfl rfl rfl rfl ?_
  refine AWp.seq ?_
  refine AWp.region ?_
  refine AOps.p rfl (p_assign rfl) ?_
  refine AOps.nil ?_
  refine AWp.seq ?_
  refine AWp.region ?_
  refine AOps.p rfl (p_move rfl) ?_
  refine AOps.p rfl (p_move rfl) ?_
  refine AOps.c rfl (o_call (vs := [.slice (some ⟨i, 0, none⟩) (rs.length) (c), .func (.func f) fs cs]) rfl Try.call44 (idxR_ok _ _ _ _ _ hg hA hB _ _ _ hcf p hp)) ?_
  refine AOps.p rfl (p_geq rfl rfl) ?_
  refine AOps.p rfl (p_assign rfl) ?_
  refine AOps.nil ?_
  refine AWp.ret ?_
  refine ends (.inr rfl) (res1 rfl (rv_tmp rfl)) ?_ (Fin.refl _ _ _)
  -- return 1: .bool (decide (0 ≤ idxR p rs))
  exact bool_eq (anyR_of _ _)

theorem IsSchedule1_ok (H : AHeap) (tm : Int) (i n c : Nat) {j : Nat} (hj : hget H j = .row false ([.int .i64 tm, .slice (some ⟨i, 0, none⟩) n c])) (r : List Int) (hr : r.length = 14) : ACall Try.prog 42 ([.agg (ints r).toArray, .pointer (some ⟨j, 0, none⟩)]) H (.bool (!isRnd tm r)) H := by
  refine ACall.body (N := 9) [(0, .agg (ints r).toArray), (1, .pointer (some ⟨j, 0, none⟩))] Try.func42 rfl rfl rfl rfl ?_
  refine AWp.seq ?_
  refine AWp.region ?_
  refine AOps.c rfl (s_box (i := H.length + 0) (cs := ints r) rfl rfl rfl rfl) ?_
  refine AOps.p rfl (p_assign rfl) ?_
  refine AOps.nil ?_
  refine AWp.seq ?_
  refine AWp.region ?_
  refine AOps.p rfl (s_fieldAddr Try.underlying47 rfl Try.sizeOf2 (by decide) rfl rfl) ?_
  refine AOps.c rfl (s_load Try.isAgg2 rfl (row_cell ((hget_append_lt (row_lt hj)).trans hj) (rfl))) ?_
  refine AOps.c rfl (s_loadN (vs := ints r) Try.isAgg25 Try.sizeOf25 rfl (by rw [ints_length]; first | rfl | omega | (simp only [List.length_set, List.length_replicate]; omega)) (row_cells (own_row rfl))) ?_
  refine AOps.c rfl (o_call (vs := [.int .i64 (tm), .agg (ints r).toArray]) rfl Try.call11 (IsRound_ok _ _ _ (by assumption))) ?_
  refine AOps.p rfl (p_not rfl) ?_
  refine AOps.p rfl (p_assign rfl) ?_
  refine AOps.nil ?_
  refine AWp.ret ?_
  refine ends (.inr rfl) (res1 rfl (rv_tmp rfl)) ?_ (Fin.dropOwn (flatB_ok rfl))
  -- return 1: .bool (!(isRnd tm r))
  exact rfl

theorem IsSchedule_ok (H : AHeap) (tm : Int) (i c : Nat) (ro : Bool) (rs : List (List Int)) (hg : hget H i = .row ro (ints rs.flatten)) (hA : All 14 rs) (hB : rs.length ≤ 9223372036854775807) : ACall Try.prog 27 ([.agg ([.int .i64 (tm), .slice (some ⟨i, 0, none⟩) (rs.length) (c)]).toArray]) H (.bool (isSch tm rs)) H := by
  refine ACall.body (N := 19) [(0, .agg ([.int .i64 (tm), .slice (some ⟨i, 0, none⟩) (rs.length) (c)]).toArray)] Try.func27 rfl rfl rfl rfl ?_
  refine AWp.seq ?_
  refine AWp.region ?_
  refine AOps.c rfl (s_box (i := H.length + 0) (cs := [.int .i64 (tm), .slice (some ⟨i, 0, none⟩) (rs.length) (c)]) rfl rfl rfl rfl) ?_
  refine AOps.p rfl (p_assign rfl) ?_
  refine AOps.nil ?_
  refine AWp.cut (fun t' H' => H ++ [AObj.row false ([.int .i64 (tm), .slice (some ⟨i, 0, none⟩) (rs.length) (c)])] = H' ∧ Sub [(0, .agg ([.int .i64 (tm), .slice (some ⟨i, 0, none⟩) (rs.length) (c)]).toArray), (1, .pointer (some ⟨H.length + 0, 0, none⟩)), (2, .bool (((inB tm 2 14) && (decide (((rs.length : Nat) : Int) ≤ 40))) && (!(rs.any (fun r => !isRnd tm r)))))] t') ?_ ?_
  · refine AWp.region ?_
    refine AOps.p rfl (s_fieldAddr Try.underlying47 rfl Try.sizeOf2 (by decide) rfl rfl) ?_
    refine AOps.c rfl (s_load Try.isAgg2 rfl (row_cell (own_row rfl) (rfl))) ?_
    refine AOps.c rfl (o_call (vs := [.int .i64 (tm), .int .i64 (2), .int .i64 (14)]) rfl Try.call30 (between_ok _ _ _ _)) ?_
    refine AOps.p rfl (p_move rfl) ?_
    refine AOps.cases (d := 6) rfl (fun c1 => ?_) (fun c1 => ?_)
    · have d1 := c1
      try simp only [inB, Bool.and_eq_true, Bool.or_eq_true, Bool.and_eq_false_iff, Bool.or_eq_false_iff, Bool.not_eq_true', Bool.not_eq_false', decide_eq_true_eq, decide_eq_false_iff_not, Int.not_le, Int.not_lt] at d1
      refine AOps.gp rfl rfl rfl (s_fieldAddr Try.underlying47 rfl Try.sizeOf45 (by decide) rfl rfl) ?_
      refine AOps.gc rfl rfl rfl (s_load Try.isAgg45 rfl (row_cell (own_row rfl) (rfl))) ?_
      refine AOps.gp rfl rfl rfl (p_len_slice rfl Try.underlying45) ?_
      refine AOps.gp rfl rfl rfl (p_leq rfl rfl) ?_
      refine AOps.p rfl (p_pickT rfl rfl) ?_
      refine AOps.p rfl (p_move rfl) ?_
      refine AOps.cases (d := 12) rfl (fun c2 => ?_) (fun c2 => ?_)
      · have d2 := c2
        try simp only [inB, Bool.and_eq_true, Bool.or_eq_true, Bool.and_eq_false_iff, Bool.or_eq_false_iff, Bool.not_eq_true', Bool.not_eq_false', decide_eq_true_eq, decide_eq_false_iff_not, Int.not_le, Int.not_lt] at d2
        refine AOps.gp rfl rfl rfl (s_fieldAddr Try.underlying47 rfl Try.sizeOf45 (by decide) rfl rfl) ?_
        refine AOps.gc rfl rfl rfl (s_load Try.isAgg45 rfl (row_cell (own_row rfl) (rfl))) ?_
        refine AOps.gp rfl rfl rfl (p_makeFunc (fs := []) (cs := [.pointer (some ⟨H.length + 0, 0, none⟩)]) rfl rfl) ?_
        refine AOps.gc rfl rfl rfl (o_call (vs := [.slice (some ⟨i, 0, none⟩) (rs.length) (c), .func (.func 42) #[] #[.pointer (some ⟨H.length + 0, 0, none⟩)]]) rfl Try.call41 (anyR_ok _ _ _ _ _ ((hget_append_lt (row_lt hg)).trans hg) hA (by omega) _ _ _ Try.call42 _ (fun r hr => IsSchedule1_ok _ _ _ _ _ (own_row rfl) _ (hA r hr)))) ?_
        refine AOps.gp rfl rfl rfl (p_not rfl) ?_
        refine AOps.p rfl (p_pickT rfl rfl) ?_
        refine AOps.p rfl (p_assign rfl) ?_
        refine AOps.nil ?_
        exact ⟨rfl, Sub.cons' rfl rfl (Sub.cons' rfl rfl (Sub.cons' rfl (bool_eq (by simp only [c1, c2, Bool.true_and, Bool.false_and, Bool.and_true, Bool.and_false, Bool.true_or, Bool.false_or, Bool.or_true, Bool.or_false, Bool.not_true, Bool.not_false, cond_true, cond_false])) (Sub.nil _)))⟩
      · have d2 := c2
        try simp only [inB, Bool.and_eq_true, Bool.or_eq_true, Bool.and_eq_false_iff, Bool.or_eq_false_iff, Bool.not_eq_true', Bool.not_eq_false', decide_eq_true_eq, decide_eq_false_iff_not, Int.not_le, Int.not_lt] at d2
        refine AOps.gn rfl rfl rfl ?_
        refine AOps.gn rfl rfl rfl ?_
        refine AOps.gn rfl rfl rfl ?_
        refine AOps.gn rfl rfl rfl ?_
        refine AOps.gn rfl rfl rfl ?_
        refine AOps.p rfl (p_pickF rfl rfl) ?_
        refine AOps.p rfl (p_assign rfl) ?_
        refine AOps.nil ?_
        exact ⟨rfl, Sub.cons' rfl rfl (Sub.cons' rfl rfl (Sub.cons' rfl (bool_eq (by simp only [c1, c2, Bool.true_and, Bool.false_and, Bool.and_true, Bool.and_false, Bool.true_or, Bool.false_or, Bool.or_true, Bool.or_false, Bool.not_true, Bool.not_false, cond_true, cond_false])) (Sub.nil _)))⟩
    · have d1 := c1
      try simp only [inB, Bool.and_eq_true, Bool.or_eq_true, Bool.and_eq_false_iff, Bool.or_eq_false_iff, Bool.not_eq_true', Bool.not_eq_false', decide_eq_true_eq, decide_eq_false_iff_not, Int.not_le, Int.not_lt] at d1
      refine AOps.gn rfl rfl rfl ?_
      refine AOps.gn rfl rfl rfl ?_
      refine AOps.gn rfl rfl rfl ?_
      refine AOps.gn rfl rfl rfl ?_
      refine AOps.p rfl (p_pickF rfl rfl) ?_
      refine AOps.p rfl (p_move rfl) ?_
      refine AOps.gn rfl rfl rfl ?_
      refine AOps.gn rfl rfl rfl ?_
      refine AOps.gn rfl rfl rfl ?_
      refine AOps.gn rfl rfl rfl ?_
      refine AOps.gn rfl rfl rfl ?_
      refine AOps.p rfl (p_pickF rfl rfl) ?_
      refine AOps.p rfl (p_assign rfl) ?_
      refine AOps.nil ?_
      exact ⟨rfl, Sub.cons' rfl rfl (Sub.cons' rfl rfl (Sub.cons' rfl (bool_eq (by simp only [c1, Bool.true_and, Bool.false_and, Bool.and_true, Bool.and_false, Bool.true_or, Bool.false_or, Bool.or_true, Bool.or_false, Bool.not_true, Bool.not_false, cond_true, cond_false])) (Sub.nil _)))⟩
  · rintro t' _ ⟨rfl, hsub⟩
    refine AWp.sub hsub ?_
    refine AWp.ret ?_
    refine ends (.inr rfl) (res1 rfl (rv_tmp rfl)) ?_ (Fin.dropOwn (flatB_ok rfl))
    -- return 1: .bool (((inB tm 2 14) && (decide (((rs.length : Nat) : Int) ≤ 40))) && (!(rs.any (fun r => !isRnd tm r))))
    exact bool_eq (isSch_E _ _)

theorem lawIsSchedule_ok (H : AHeap) (tm : Int) (i c : Nat) (ro : Bool) (rs : List (List Int)) (hg : hget H i = .row ro (ints rs.flatten)) (hA : All 14 rs) (hB : rs.length ≤ 9223372036854775807) : ACall Try.prog 8 ([.agg ([.int .i64 (tm), .slice (some ⟨i, 0, none⟩) (rs.length) (c)]).toArray]) H (.bool true) H := by
  refine ACall.body (N := 27) [(0, .agg ([.int .i64 (tm), .slice (some ⟨i, 0, none⟩) (rs.length) (c)]).toArray)] Try.func8 rfl rfl rfl rfl ?_
  refine AWp.seq ?_
  refine AWp.region ?_
  refine AOps.c rfl (s_box (i := H.length + 0) (cs := [.int .i64 (tm), .slice (some ⟨i, 0, none⟩) (rs.length) (c)]) rfl rfl rfl rfl) ?_
  refine AOps.p rfl (p_assign rfl) ?_
  refine AOps.nil ?_
  refine AWp.seq ?_
  refine AWp.region ?_
  refine AOps.p rfl (p_assign rfl) ?_
  refine AOps.nil ?_
  refine AWp.seq ?_
  refine AWp.region ?_
  refine AOps.c rfl (s_loadN (vs := [.int .i64 (tm), .slice (some ⟨i, 0, none⟩) (rs.length) (c)]) Try.isAgg42 Try.sizeOf42 rfl rfl (row_cells (own_row rfl))) ?_
  refine AOps.p rfl (p_move rfl) ?_
  refine AOps.c rfl (o_call (vs := [.agg ([.int .i64 (tm), .slice (some ⟨i, 0, none⟩) (rs.length) (c)]).toArray, .int .i64 (1048576)]) rfl Try.call24 (szSchedule_ok _ _ _ _ _ _ (by omega) (by omega) (by omega))) ?_
  refine AOps.p rfl (p_assign rfl) ?_
  refine AOps.nil ?_
  refine AWp.seq ?_
  refine AWp.seq ?_
  refine AWp.region ?_
  refine AOps.p rfl (p_move rfl) ?_
  refine AOps.p rfl (p_lss rfl rfl) ?_
  refine AOps.nil ?_
  refine AWp.cond rfl (fun c1 => ?_) (fun c1 => ?_)
  · have d1 := c1
    try simp only [inB, Bool.and_eq_true, Bool.or_eq_true, Bool.and_eq_false_iff, Bool.or_eq_false_iff, Bool.not_eq_true', Bool.not_eq_false', decide_eq_true_eq, decide_eq_false_iff_not, Int.not_le, Int.not_lt] at d1
    refine AWp.seq ?_
    refine AWp.region ?_
    refine AOps.p rfl (p_assign rfl) ?_
    refine AOps.nil ?_
    refine AWp.ret ?_
    refine ends (.inr rfl) (res1 rfl (rv_tmp rfl)) ?_ (Fin.dropOwn (flatB_ok rfl))
    -- return 1: .bool true
    exact rfl
  · have d1 := c1
    try simp only [inB, Bool.and_eq_true, Bool.or_eq_true, Bool.and_eq_false_iff, Bool.or_eq_false_iff, Bool.not_eq_true', Bool.not_eq_false', decide_eq_true_eq, decide_eq_false_iff_not, Int.not_le, Int.not_lt] at d1
    have hsz := szv_pos d1
    refine AWp.skip ?_
    refine AWp.seq ?_
    refine AWp.region ?_
    refine AOps.c rfl (s_loadN (vs := [.int .i64 (tm), .slice (some ⟨i, 0, none⟩) (rs.length) (c)]) Try.isAgg42 Try.sizeOf42 rfl rfl (row_cells (own_row rfl))) ?_
    refine AOps.c rfl (o_call (vs := [.agg ([.int .i64 (tm), .slice (some ⟨i, 0, none⟩) (rs.length) (c)]).toArray]) rfl Try.call26 (toSchedule_ok _ _ _ _ _ _ ((hget_append_lt (row_lt hg)).trans hg) hA (by omega) (i' := H.length + 1) (H' := H ++ [AObj.row false ([.int .i64 (tm), .slice (some ⟨i, 0, none⟩) (rs.length) (c)]), AObj.row false (ints rs.flatten)]) (by exact List.length_append) (by exact List.append_assoc _ _ _))) ?_
    refine AOps.c rfl (o_call (vs := [.agg ([.int .i64 (tm), .slice (some ⟨H.length + 1, 0, none⟩) (rs.length) (rs.length)]).toArray]) rfl Try.call25 (sIsSchedule_ok _ _ _ _ _ _ (own_row rfl) hA (by omega))) ?_
    refine AOps.p rfl (p_assign rfl) ?_
    refine AOps.nil ?_
    refine AWp.seq ?_
    refine AWp.region ?_
    refine AOps.c rfl (s_loadN (vs := [.int .i64 (tm), .slice (some ⟨i, 0, none⟩) (rs.length) (c)]) Try.isAgg42 Try.sizeOf42 rfl rfl (row_cells (own_row rfl))) ?_
    refine AOps.c rfl (o_call (vs := [.agg ([.int .i64 (tm), .slice (some ⟨i, 0, none⟩) (rs.length) (c)]).toArray]) rfl Try.call26 (toSchedule_ok _ _ _ _ _ _ ((hget_append_lt (row_lt hg)).trans hg) hA (by omega) (i' := H.length + 2) (H' := H ++ [AObj.row false ([.int .i64 (tm), .slice (some ⟨i, 0, none⟩) (rs.length) (c)]), AObj.row false (ints rs.flatten), AObj.row false (ints rs.flatten)]) (by exact List.length_append) (by exact List.append_assoc _ _ _))) ?_
    refine AOps.c rfl (s_alloc (i := H.length + 3) (cs := [.int .i64 (0), .slice none 0 0]) Try.zeroValue47 rfl rfl (by exact List.length_append) (by exact List.append_assoc _ _ _)) ?_
    refine AOps.s (s_storeAll (H' := H ++ [AObj.row false ([.int .i64 (tm), .slice (some ⟨i, 0, none⟩) (rs.length) (c)]), AObj.row false (ints rs.flatten), AObj.row false (ints rs.flatten), AObj.row false ([.int .i64 (tm), .slice (some ⟨H.length + 2, 0, none⟩) (rs.length) (rs.length)])]) Try.sizeOf47 rfl rfl (ones_list rfl) (own_row rfl) rfl rfl ((set_own _ _ _ _).trans rfl)) ?_
    refine AOps.nil ?_
    refine AWp.seq ?_
    refine AWp.region ?_
    refine AOps.c rfl (s_loadN (vs := [.int .i64 (tm), .slice (some ⟨H.length + 2, 0, none⟩) (rs.length) (rs.length)]) Try.isAgg47 Try.sizeOf47 rfl rfl (row_cells (own_row rfl))) ?_
    refine AOps.c rfl (o_call (vs := [.agg ([.int .i64 (tm), .slice (some ⟨H.length + 2, 0, none⟩) (rs.length) (rs.length)]).toArray]) rfl Try.call27 (IsSchedule_ok _ _ _ _ _ _ (own_row rfl) hA (by omega))) ?_
    refine AOps.p rfl (p_assign rfl) ?_
    refine AOps.nil ?_
    refine AWp.seq ?_
    refine AWp.seq ?_
    refine AWp.region ?_
    refine AOps.p rfl (p_move rfl) ?_
    refine AOps.p rfl (p_move rfl) ?_
    refine AOps.p rfl (p_bneq Try.underlying4 rfl rfl) ?_
    refine AOps.nil ?_
    refine AWp.cond rfl (fun c2 => ?_) (fun c2 => ?_)
    · have d2 := c2
      try simp only [inB, Bool.and_eq_true, Bool.or_eq_true, Bool.and_eq_false_iff, Bool.or_eq_false_iff, Bool.not_eq_true', Bool.not_eq_false', decide_eq_true_eq, decide_eq_false_iff_not, Int.not_le, Int.not_lt] at d2
      refine AWp.seq ?_
      refine AWp.region ?_
      refine AOps.p rfl (p_assign rfl) ?_
      refine AOps.nil ?_
      refine AWp.ret ?_
      refine ends (.inr rfl) (res1 rfl (rv_tmp rfl)) ?_ (Fin.dropOwn (flatB_ok rfl))
      -- return 2: .bool false
      exact absurd c2 (by simp)
    · have d2 := c2
      try simp only [inB, Bool.and_eq_true, Bool.or_eq_true, Bool.and_eq_false_iff, Bool.or_eq_false_iff, Bool.not_eq_true', Bool.not_eq_false', decide_eq_true_eq, decide_eq_false_iff_not, Int.not_le, Int.not_lt] at d2
      refine AWp.skip ?_
      refine AWp.seq ?_
      refine AWp.cut (fun t' H' => H ++ [AObj.row false ([.int .i64 (tm), .slice (some ⟨i, 0, none⟩) (rs.length) (c)]), AObj.row false (ints rs.flatten), AObj.row false (ints rs.flatten), AObj.row false ([.int .i64 (tm), .slice (some ⟨H.length + 2, 0, none⟩) (rs.length) (rs.length)]), AObj.row false (ints rs.flatten)] = H' ∧ Sub [(0, .agg ([.int .i64 (tm), .slice (some ⟨i, 0, none⟩) (rs.length) (c)]).toArray), (1, .pointer (some ⟨H.length + 0, 0, none⟩)), (2, .bool false), (3, .int .i64 (szv 1048576 rs.length)), (4, .bool (isSch tm rs)), (5, .pointer (some ⟨H.length + 3, 0, none⟩)), (6, .bool (isSch tm rs)), (11, .bool (decide (szv 1048576 rs.length < 0))), (21, .bool (!((isSch tm rs) == (isSch tm rs)))), (26, .bool (!(decide (tm = tm) && decide (rs = rs))))] t') ?_ ?_
      · refine DTr.start mix ?_
        refine DTr.r rfl rfl (r_loadN (vs := [.int .i64 (tm), .slice (some ⟨H.length + 2, 0, none⟩) (rs.length) (rs.length)]) rfl Try.isAgg47 Try.sizeOf47 rfl) (many_bel (row_cells (own_row rfl)) (bel_cons (.of_flat0 rfl) (bel_cons (.slice _ _ _ _ (by first | omega | (simp only [List.length_append, List.length_cons, List.length_nil]; omega))) bel_nil))) ?_
        refine DTr.r rfl rfl (r_loadN (vs := [.int .i64 (tm), .slice (some ⟨i, 0, none⟩) (rs.length) (c)]) rfl Try.isAgg42 Try.sizeOf42 rfl) (many_bel (row_cells (own_row rfl)) (bel_cons (.of_flat0 rfl) (bel_cons (.slice _ _ _ _ (by have hb := (row_lt hg); first | omega | (simp only [List.length_append, List.length_cons, List.length_nil]; omega))) bel_nil))) ?_
        refine DTr.w rfl rfl (o_call (vs := [.agg ([.int .i64 (tm), .slice (some ⟨i, 0, none⟩) (rs.length) (c)]).toArray]) rfl Try.call26 (toSchedule_ok _ _ _ _ _ _ ((hget_append_lt (row_lt hg)).trans hg) hA (by omega) (i' := H.length + 4) (H' := H ++ [AObj.row false ([.int .i64 (tm), .slice (some ⟨i, 0, none⟩) (rs.length) (c)]), AObj.row false (ints rs.flatten), AObj.row false (ints rs.flatten), AObj.row false ([.int .i64 (tm), .slice (some ⟨H.length + 2, 0, none⟩) (rs.length) (rs.length)]), AObj.row false (ints rs.flatten)]) (by exact List.length_append) (by exact List.append_assoc _ _ _))) ((by simp only [List.length_append, List.length_cons, List.length_nil]; omega)) ?_
        refine DTr.w rfl rfl (o_call (vs := [.agg ([.int .i64 (tm), .slice (some ⟨H.length + 2, 0, none⟩) (rs.length) (rs.length)]).toArray, .agg ([.int .i64 (tm), .slice (some ⟨H.length + 4, 0, none⟩) (rs.length) (rs.length)]).toArray]) rfl Try.call28 (eqSchedule_ok _ _ _ _ _ _ _ (own_row rfl) hA _ _ _ _ (own_row rfl) hA (by omega) (by omega))) (Nat.le_refl _) ?_
        refine DTr.p rfl rfl (p_not rfl) ?_
        exact DTr.nil ⟨by kernel_rfl, dyn_ext rfl (by intro f hf; simp at hf; rcases hf with rfl | rfl | rfl | rfl | rfl <;> first | (intro h; cases h; done) | (intro _; first | exact ⟨[], (List.append_nil _).symm⟩ | exact ⟨[AObj.row false (ints rs.flatten)], by dsimp only; rw [List.append_assoc]; rfl⟩)), rfl, Sub.cons' rfl rfl (Sub.cons' rfl rfl (Sub.cons' rfl rfl (Sub.cons' rfl rfl (Sub.cons' rfl rfl (Sub.cons' rfl rfl (Sub.cons' rfl rfl (Sub.cons' rfl rfl (Sub.cons' rfl rfl (Sub.cons' rfl rfl (Sub.nil _))))))))))⟩
      · rintro t' _ ⟨rfl, hsub⟩
        refine AWp.sub hsub ?_
        refine AWp.cond rfl (fun c3 => ?_) (fun c3 => ?_)
        · have d3 := c3
          try simp only [inB, Bool.and_eq_true, Bool.or_eq_true, Bool.and_eq_false_iff, Bool.or_eq_false_iff, Bool.not_eq_true', Bool.not_eq_false', decide_eq_true_eq, decide_eq_false_iff_not, Int.not_le, Int.not_lt] at d3
          refine AWp.seq ?_
          refine AWp.region ?_
          refine AOps.p rfl (p_assign rfl) ?_
          refine AOps.nil ?_
          refine AWp.ret ?_
          refine ends (.inr rfl) (res1 rfl (rv_tmp rfl)) ?_ (Fin.dropOwn (flatB_ok rfl))
          -- return 3: .bool false
          exact absurd c3 (by simp)
        · have d3 := c3
          try simp only [inB, Bool.and_eq_true, Bool.or_eq_true, Bool.and_eq_false_iff, Bool.or_eq_false_iff, Bool.not_eq_true', Bool.not_eq_false', decide_eq_true_eq, decide_eq_false_iff_not, Int.not_le, Int.not_lt] at d3
          refine AWp.skip ?_
          refine AWp.seq ?_
          refine AWp.region ?_
          refine AOps.p rfl (p_assign rfl) ?_
          refine AOps.nil ?_
          refine AWp.ret ?_
          refine ends (.inr rfl) (res1 rfl (rv_tmp rfl)) ?_ (Fin.dropOwn (flatB_ok rfl))
          -- return 4: .bool true
          exact rfl

end Go.Proofs.Ytgageobfalmhpaa