/-
  FewestBreaks: plain sums, least numbers, rows and bits. Plain Lean, no program, no condition.
-/
import Derived.Test.YtdafmafigcljkaaPuV
import Derived.Test.YtdafmafigcljkaaBit
namespace Go.Proofs.Ytdafmafigcljkaa
open Go Am
set_option linter.unusedVariables false
set_option linter.unusedSimpArgs false

theorem loop_inv' {S R : Type} {step : S → Option (Lo S R)} (I : Nat → S → Prop) (Q : R → Prop) (n : Nat) (hgo : ∀ k s, k < n → I k s → ∃ s', step s = some (.go s') ∧ I (k + 1) s') (hout : ∀ s, I n s → ∃ r, step s = some (.out r) ∧ Q r) :
    ∀ (m k fu : Nat) (s : S), k + m = n → m < fu → I k s → ∃ r, loopF step fu s = some r ∧ Q r
  | 0, k, fu + 1, s, h, _, hs => by
    have : k = n := by omega
    subst this
    obtain ⟨r, h1, h2⟩ := hout s hs
    exact ⟨r, loop_out h1, h2⟩
  | m + 1, k, fu + 1, s, h, hf, hs => by
    obtain ⟨s', h1, h2⟩ := hgo k s (by omega) hs
    rw [loop_go h1]; exact loop_inv' I Q n hgo hout m (k + 1) fu s' (by omega) (by omega) h2
  | 0, _, 0, _, _, hf, _ => absurd hf (Nat.not_lt_zero _)
  | _ + 1, _, 0, _, _, hf, _ => absurd hf (Nat.not_lt_zero _)
theorem loop_inv {S R : Type} {step : S → Option (Lo S R)} {fu : Nat} (I : Nat → S → Prop) (Q : R → Prop) (n : Nat) (hf : n < fu) (hgo : ∀ k s, k < n → I k s → ∃ s', step s = some (.go s') ∧ I (k + 1) s') (hout : ∀ s, I n s → ∃ r, step s = some (.out r) ∧ Q r) {s : S} (hs : I 0 s) : ∃ r, loopF step fu s = some r ∧ Q r :=
  loop_inv' I Q n hgo hout n 0 fu s (by omega) hf hs

/-! the least of a row of numbers -/
def minTo (c : Nat → Int) : Nat → Int
  | 0 => 0
  | k + 1 => if k = 0 ∨ c k < minTo c k then c k else minTo c k
theorem minTo_spec (c : Nat → Int) : ∀ m, 0 < m → (∀ k, k < m → minTo c m ≤ c k) ∧ ∃ k, k < m ∧ minTo c m = c k
  | 0, h => absurd h (Nat.lt_irrefl _)
  | m + 1, _ => by
    unfold minTo
    by_cases h0 : m = 0
    · subst h0
      refine ⟨fun k hk => ?_, 0, by omega, by simp⟩
      have : k = 0 := by omega
      subst this; simp
    · obtain ⟨h1, k0, h2, h3⟩ := minTo_spec c m (by omega)
      by_cases hc : c m < minTo c m
      · rw [if_pos (.inr hc)]
        refine ⟨fun k hk => ?_, m, by omega, rfl⟩
        rcases Nat.lt_succ_iff_lt_or_eq.1 hk with hk | rfl
        · have := h1 k hk; omega
        · omega
      · rw [if_neg (by omega)]
        refine ⟨fun k hk => ?_, k0, by omega, h3⟩
        rcases Nat.lt_succ_iff_lt_or_eq.1 hk with hk | rfl
        · exact h1 k hk
        · omega
theorem minTo_eq {c d : Nat → Int} {m l : Nat} (hm : 0 < m) (hl : 0 < l) (h1 : ∀ k, k < m → ∃ j, j < l ∧ d j ≤ c k) (h2 : ∀ j, j < l → ∃ k, k < m ∧ c k ≤ d j) : minTo c m = minTo d l := by
  obtain ⟨a1, k0, a2, a3⟩ := minTo_spec c m hm
  obtain ⟨b1, j0, b2, b3⟩ := minTo_spec d l hl
  obtain ⟨j, hj, e1⟩ := h1 k0 a2
  obtain ⟨k, hk, e2⟩ := h2 j0 b2
  have := a1 k hk
  have := b1 j hj
  omega
theorem minTo_congr {c d : Nat → Int} : ∀ {m : Nat}, (∀ k, k < m → c k = d k) → minTo c m = minTo d m
  | 0, _ => rfl
  | m + 1, h => by
    unfold minTo
    rw [minTo_congr (m := m) fun k hk => h k (by omega), h m (by omega)]
theorem minTo_le {c : Nat → Int} {m : Nat} {b : Int} (h0 : 0 ≤ b) (h : ∀ k, k < m → 0 ≤ c k ∧ c k ≤ b) : 0 ≤ minTo c m ∧ minTo c m ≤ b := by
  by_cases hm : 0 < m
  · obtain ⟨_, k, hk, e⟩ := minTo_spec c m hm
    rw [e]; exact h k hk
  · have : m = 0 := by omega
    subst this; exact ⟨Int.le_refl _, h0⟩

/-! sums -/
theorem ext_rd {l m : List Int} (h : l.length = m.length) (hk : ∀ k, k < l.length → rd l k = rd m k) : l = m := by
  apply List.ext_getElem h
  intro k h1 h2
  have := hk k h1
  simpa [rd, List.getD_eq_getElem?_getD, List.getElem?_eq_getElem h1, List.getElem?_eq_getElem h2] using this
theorem set_rd {l : List Int} {i : Nat} (h : i < l.length) : l.set i (rd l i) = l :=
  ext_rd (by simp) fun k hk => by
    rw [rd_set h]; split
    · rename_i e; rw [e]
    · rfl
theorem sum_set : ∀ {l : List Int} {i : Nat} {x : Int}, i < l.length → (l.set i x).sum = l.sum - rd l i + x
  | [], _, _, h => absurd h (Nat.not_lt_zero _)
  | y :: l, 0, x, _ => by simp [rd, List.sum_cons]; omega
  | y :: l, i + 1, x, h => by
    have := sum_set (l := l) (i := i) (x := x) (by simpa using h)
    have e : rd (y :: l) (i + 1) = rd l i := rfl
    rw [List.set_cons_succ, List.sum_cons, List.sum_cons, this, e]; omega
theorem sum_nn : ∀ {l : List Int}, (∀ x ∈ l, 0 ≤ x) → 0 ≤ l.sum
  | [], _ => Int.le_refl _
  | y :: l, h => by
    have := sum_nn (l := l) fun x hx => h x (List.mem_cons_of_mem _ hx)
    have := h y (List.mem_cons_self ..)
    rw [List.sum_cons]; omega
theorem rd_le_sum : ∀ {l : List Int} {i : Nat}, (∀ x ∈ l, 0 ≤ x) → i < l.length → rd l i ≤ l.sum
  | [], _, _, h => absurd h (Nat.not_lt_zero _)
  | y :: l, 0, h, _ => by
    have := sum_nn (l := l) fun x hx => h x (List.mem_cons_of_mem _ hx)
    rw [List.sum_cons]; show y ≤ _; omega
  | y :: l, i + 1, h, hi => by
    have h1 := rd_le_sum (l := l) (i := i) (fun x hx => h x (List.mem_cons_of_mem _ hx)) (by simpa using hi)
    have := h y (List.mem_cons_self ..)
    rw [List.sum_cons]; show rd l i ≤ _; omega
theorem sum_take {l : List Int} {k : Nat} (h : k < l.length) : (l.take (k + 1)).sum = (l.take k).sum + rd l k := by
  rw [List.take_add_one, List.getElem?_eq_getElem h, Option.toList_some, List.sum_append]
  simp [rd, List.getD_eq_getElem?_getD, List.getElem?_eq_getElem h]
theorem sum_take_le {l : List Int} (h : ∀ x ∈ l, 0 ≤ x) (k : Nat) : 0 ≤ (l.take k).sum ∧ (l.take k).sum ≤ l.sum := by
  have h1 := sum_nn (l := l.take k) fun x hx => h x (List.mem_of_mem_take hx)
  have h2 := sum_nn (l := l.drop k) fun x hx => h x (List.mem_of_mem_drop hx)
  have h3 : l.sum = (l.take k).sum + (l.drop k).sum := by rw [← List.sum_append, List.take_append_drop]
  omega

/-! teams that stay where they were -/
def qb (u v : List Int) (a : Nat) : Bool := decide (0 ≤ rd v a) && decide (rd v a = rd u a)
def bc (u v : List Int) : Nat → Nat
  | 0 => 0
  | a + 1 => if qb u v a then bc u v a + 1 else bc u v a
theorem bc_le (u v : List Int) : ∀ a, bc u v a ≤ a
  | 0 => Nat.le_refl _
  | a + 1 => by have := bc_le u v a; unfold bc; split <;> omega
theorem brk_loop {fu N : Nat} {step : List Int × Int → Option (Lo (List Int × Int) (List Int))} {u v : List Int} (hf : N < fu)
    (hgo : ∀ a, a < N → ∀ xs : List Int, xs.length = N → 0 ≤ rd xs a → rd xs a ≤ 100000 → step (xs, (a : Int)) = some (.go (if qb u v a then xs.set a (rd xs a + 1) else xs, (a : Int) + 1)))
    (hout : ∀ xs, step (xs, (N : Int)) = some (.out xs))
    {xs : List Int} (hl : xs.length = N) (hp : ∀ x ∈ xs, 0 ≤ x) (hs : xs.sum ≤ 50000) (hN : N ≤ 14) :
    ∃ ys, loopF step fu (xs, 0) = some ys ∧ (ys.length = N ∧ (∀ x ∈ ys, 0 ≤ x) ∧ ys.sum = xs.sum + bc u v N) := by
  refine loop_inv (fun a s => s.2 = (a : Int) ∧ s.1.length = N ∧ (∀ x ∈ s.1, 0 ≤ x) ∧ s.1.sum = xs.sum + bc u v a) _ N hf ?_ ?_ ⟨rfl, hl, hp, by show xs.sum = xs.sum + ((0 : Nat) : Int); omega⟩
  · rintro a ⟨ys, x⟩ ha ⟨rfl, h1, h2, h3⟩
    dsimp only at h1 h2 h3
    have hb := bc_le u v a
    have h4 := rd_le_sum (l := ys) (i := a) h2 (by omega)
    have h5 := h2 _ (rd_mem (l := ys) (k := a) (by omega))
    refine ⟨_, hgo a ha ys h1 h5 (by omega), by push_cast; rfl, ?_⟩
    dsimp only
    unfold bc
    by_cases hq : qb u v a = true
    · rw [if_pos hq, if_pos hq]
      refine ⟨by simpa using h1, fun y hy => ?_, ?_⟩
      · rcases List.mem_or_eq_of_mem_set hy with h | h
        · exact h2 y h
        · omega
      · rw [sum_set (by omega)]; push_cast; omega
    · rw [if_neg hq, if_neg hq]; exact ⟨h1, h2, h3⟩
  · rintro ⟨ys, x⟩ ⟨rfl, h1, h2, h3⟩
    exact ⟨_, hout ys, h1, h2, h3⟩
/-- rows one after the other -/
def cs (R : Nat → List Int) (N : Nat) : Nat → Nat
  | 0 => 0
  | i + 1 => cs R N i + if i = 0 then 0 else bc (R (i - 1)) (R i) N
theorem cs_le (R : Nat → List Int) (N : Nat) : ∀ i, cs R N i ≤ N * i
  | 0 => Nat.le_refl _
  | i + 1 => by
    have h1 := cs_le R N i
    have h2 := bc_le (R (i - 1)) (R i) N
    unfold cs; rw [Nat.mul_add, Nat.mul_one]; split <;> omega
theorem cs_congr {R R' : Nat → List Int} {N : Nat} : ∀ {i : Nat}, (∀ j, j < i → R j = R' j) → cs R N i = cs R' N i
  | 0, _ => rfl
  | i + 1, h => by
    unfold cs
    rw [cs_congr (i := i) fun j hj => h j (by omega)]
    by_cases h0 : i = 0
    · rw [if_pos h0, if_pos h0]
    · rw [if_neg h0, if_neg h0, h (i - 1) (by omega), h i (by omega)]

/-! pairs of a round -/
def idx (r : List Int) (a : Nat) : Nat := (prs r a).length
theorem idx_succ (r : List Int) (a : Nat) : idx r (a + 1) = if (a : Int) < rd r a then idx r a + 1 else idx r a := by
  unfold idx; rw [prs_succ]; split
  · simp
  · rfl
theorem idx_mono (r : List Int) (a : Nat) : ∀ c, idx r a ≤ idx r (a + c)
  | 0 => Nat.le_refl _
  | c + 1 => by
    have := idx_mono r a c
    rw [← Nat.add_assoc, idx_succ]; split <;> omega
theorem idx_lt {r : List Int} {a c : Nat} (h : (a : Int) < rd r a) (hc : a < c) : idx r a < idx r c := by
  have h1 := idx_succ r a
  rw [if_pos h] at h1
  have h2 := idx_mono r (a + 1) (c - (a + 1))
  rw [Nat.add_sub_cancel' (by omega)] at h2
  omega
theorem idx_inj {r : List Int} {a c : Nat} (ha : (a : Int) < rd r a) (hc : (c : Int) < rd r c) (h : idx r a = idx r c) : a = c := by
  rcases Nat.lt_trichotomy a c with h1 | h1 | h1
  · have := idx_lt ha h1; omega
  · exact h1
  · have := idx_lt hc h1; omega
theorem idx_le (r : List Int) (a : Nat) : idx r a ≤ a := prs_len r a
theorem rw_app_l {a b : List (List Int)} {k : Nat} (h : k < a.length) : rw_ (a ++ b) k = rw_ a k := by
  simp [rw_, List.getD_eq_getElem?_getD, List.getElem?_append_left h]
theorem rw_app_r {a b : List (List Int)} {k : Nat} : rw_ (a ++ b) (a.length + k) = rw_ b k := by
  simp [rw_, List.getD_eq_getElem?_getD, List.getElem?_append_right]
theorem prs_at {r : List Int} : ∀ {m k : Nat}, k < idx r m → ∃ a, a < m ∧ (a : Int) < rd r a ∧ idx r a = k ∧ rw_ (prs r m) k = [(a : Int), rd r a]
  | 0, k, h => absurd h (by simp [idx, prs])
  | m + 1, k, h => by
    rw [idx_succ] at h
    by_cases hk : k < idx r m
    · obtain ⟨a, h1, h2, h3, h4⟩ := prs_at hk
      refine ⟨a, by omega, h2, h3, ?_⟩
      rw [prs_succ]; split
      · rw [rw_app_l hk]; exact h4
      · exact h4
    · by_cases hm : (m : Int) < rd r m
      · rw [if_pos hm] at h
        have e : k = idx r m := by omega
        refine ⟨m, by omega, hm, e.symm, ?_⟩
        rw [prs_succ, if_pos hm, e]
        exact rw_app_r (k := 0)
      · rw [if_neg hm] at h; omega
def rndOk (N : Nat) (r : List Int) : Prop := ∀ a, a < N → 0 ≤ rd r a ∧ rd r a < N ∧ rd r (rd r a).toNat = a
theorem rndOk_of {n : Int} {r : List Int} (hn : 2 ≤ n ∧ n ≤ 14) (h : isRnd n r = true) : rndOk n.toNat r := by
  intro a ha
  unfold isRnd at h
  rw [Bool.and_eq_true, List.all_eq_true] at h
  have h1 := h.2 a (List.mem_range.2 (by omega))
  unfold rndAt at h1
  rw [if_pos (by omega), Bool.and_eq_true] at h1
  have h2 := inB_of h1.1
  exact ⟨h2.1, by omega, of_decide_eq_true h1.2⟩

/-! rows -/
def rowK (N : Nat) (r : List Int) (x v : Nat → Int) (k : Nat) : List Int := (List.range N).map fun (a : Nat) =>
  if (a : Int) < rd r a then (if idx r a < k then x (idx r a) else v a) else if rd r a < (a : Int) then (if idx r (rd r a).toNat < k then 1 - x (idx r (rd r a).toNat) else v a) else v a
theorem rowK_len (N : Nat) (r : List Int) (x v : Nat → Int) (k : Nat) : (rowK N r x v k).length = N := by simp [rowK]
theorem rowK_zero {N : Nat} {r : List Int} {x : Nat → Int} {l : List Int} (hl : l.length = N) : rowK N r x (rd l) 0 = l := by
  refine ext_rd (by rw [rowK_len, hl]) fun c hc => ?_
  rw [rowK_len] at hc
  unfold rowK; rw [rd_map hc]
  simp
theorem rowK_rd {N : Nat} {r : List Int} {x v : Nat → Int} {k a : Nat} (h : a < N) : rd (rowK N r x v k) a = if (a : Int) < rd r a then (if idx r a < k then x (idx r a) else v a) else if rd r a < (a : Int) then (if idx r (rd r a).toNat < k then 1 - x (idx r (rd r a).toNat) else v a) else v a := by
  unfold rowK; rw [rd_map h]
theorem rowK_step {N : Nat} {r : List Int} {x v : Nat → Int} {k a : Nat} (hr : rndOk N r) (ha : a < N) (hp : (a : Int) < rd r a) (hk : idx r a = k) : ((rowK N r x v k).set a (x k)).set (rd r a).toNat (1 - x k) = rowK N r x v (k + 1) := by
  obtain ⟨b0, b1, b2⟩ := hr a ha
  refine ext_rd (by simp [rowK_len]) fun c hc => ?_
  have hc' : c < N := by simpa [rowK_len] using hc
  rw [rd_set (by simp [rowK_len]; omega), rd_set (by rw [rowK_len]; exact ha), rowK_rd hc', rowK_rd hc']
  by_cases e1 : (rd r a).toNat = c
  · rw [if_pos e1]
    have e2 : rd r c = a := by rw [← e1]; exact b2
    rw [e2, if_neg (by omega), if_pos (by omega), Int.toNat_natCast, hk, if_pos (by omega)]
  · rw [if_neg e1]
    by_cases e2 : a = c
    · subst e2
      rw [if_pos rfl, if_pos hp, hk, if_pos (by omega)]
    · rw [if_neg e2]
      by_cases h1 : (c : Int) < rd r c
      · rw [if_pos h1, if_pos h1]
        have : idx r c ≠ k := fun h => e2 (idx_inj hp h1 (by omega))
        by_cases h2 : idx r c < k
        · rw [if_pos h2, if_pos (by omega)]
        · rw [if_neg h2, if_neg (by omega)]
      · rw [if_neg h1, if_neg h1]
        by_cases h3 : rd r c < (c : Int)
        · rw [if_pos h3, if_pos h3]
          obtain ⟨d0, d1, d2⟩ := hr c hc'
          have : idx r (rd r c).toNat ≠ k := by
            intro h
            have e := idx_inj (r := r) (a := a) (c := (rd r c).toNat) hp (by rw [d2]; omega) (by omega)
            rw [← e] at d2
            omega
          by_cases h2 : idx r (rd r c).toNat < k
          · rw [if_pos h2, if_pos (by omega)]
          · rw [if_neg h2, if_neg (by omega)]
        · rw [if_neg h3, if_neg h3]
def rowX (N : Nat) (r : List Int) (x : Nat → Int) : List Int := rowK N r x (fun _ => -1) (idx r N)
theorem rowX_len (N : Nat) (r : List Int) (x : Nat → Int) : (rowX N r x).length = N := rowK_len ..
theorem rowK_full {N : Nat} {r : List Int} {x y v : Nat → Int} {k : Nat} (hr : rndOk N r) (hk : idx r N ≤ k) (hv : ∀ a, a < N → rd r a = a → v a = -1) (hx : ∀ j, j < idx r N → x j = y j) : rowK N r x v k = rowX N r y := by
  refine ext_rd (by simp [rowK_len, rowX_len]) fun c hc => ?_
  rw [rowK_len] at hc
  unfold rowX
  rw [rowK_rd hc, rowK_rd hc]
  by_cases h1 : (c : Int) < rd r c
  · have := idx_lt h1 hc
    rw [if_pos h1, if_pos h1, if_pos (by omega), if_pos this, hx _ this]
  · rw [if_neg h1, if_neg h1]
    by_cases h3 : rd r c < (c : Int)
    · obtain ⟨d0, d1, d2⟩ := hr c hc
      have := idx_lt (r := r) (a := (rd r c).toNat) (c := N) (by rw [d2]; omega) (by omega)
      rw [if_pos h3, if_pos h3, if_pos (by omega), if_pos this, hx _ this]
    · rw [if_neg h3, if_neg h3, hv c hc (by omega)]
theorem rowX_congr {N : Nat} {r : List Int} {x y : Nat → Int} (hr : rndOk N r) (hx : ∀ j, j < idx r N → x j = y j) : rowX N r x = rowX N r y := rowK_full hr (Nat.le_refl _) (fun _ _ _ => rfl) hx
theorem rowX_free {N : Nat} {r : List Int} {x : Nat → Int} {a : Nat} (ha : a < N) (h : rd r a = a) : rd (rowX N r x) a = -1 := by
  unfold rowX; rw [rowK_rd ha, if_neg (by omega), if_neg (by omega)]

/-! bits -/
def bt (b j : Nat) : Int := if Nat.testBit b j then 1 else 0
theorem bt_le (b j : Nat) : 0 ≤ bt b j ∧ bt b j ≤ 1 := by unfold bt; split <;> omega
theorem wrap_small {j : Nat} (h : j ≤ 1000) : IntKind.u64.wrap (j : Int) = j := by
  unfold IntKind.wrap
  simp only [IntKind.signed, IntKind.bits, Bool.false_and, Bool.false_eq_true, if_false]
  omega
theorem ishl_one {p : Nat} (h : p ≤ 15) : ishl .i64 1 (p : Int) = ((2 ^ p : Nat) : Int) := by
  have : ∀ p : Fin 16, ishl .i64 1 (p.val : Int) = ((2 ^ p.val : Nat) : Int) := by decide
  exact this ⟨p, by omega⟩
theorem iand_bt {b j : Nat} (hb : b < 65536) (hj : j ≤ 60) : iand .i64 (ishr .i64 (b : Int) (j : Int)) 1 = bt b j := by
  have e : ishr .i64 (b : Int) (j : Int) = ((b / 2 ^ j : Nat) : Int) := by
    unfold ishr
    rw [Int.toNat_natCast, show min j (IntKind.bits .i64) = j from Nat.min_eq_left (by show j ≤ 64; omega), Int.fdiv_eq_ediv_of_nonneg _ (Int.le_of_lt (Int.pow_pos (by omega)))]
    push_cast; rfl
  have hm : b / 2 ^ j ≤ b := Nat.div_le_self ..
  rw [e]
  unfold iand
  generalize hq : b / 2 ^ j = q at hm
  have e2 : (BitVec.ofInt (IntKind.bits .i64) (q : Int) &&& BitVec.ofInt (IntKind.bits .i64) 1).toNat = q % 2 := by
    show (BitVec.ofInt 64 (q : Int) &&& BitVec.ofInt 64 1).toNat = q % 2
    rw [BitVec.toNat_and, BitVec.toNat_ofInt, BitVec.toNat_ofInt]
    have h1 : ((q : Int) % ((2 ^ 64 : Nat) : Int)).toNat = q := by omega
    rw [h1]
    show q &&& 1 = q % 2
    exact Nat.and_one_is_mod q
  rw [e2]
  have e3 : bt b j = ((q % 2 : Nat) : Int) := by
    unfold bt
    have : Nat.testBit b j = decide (q % 2 = 1) := by
      rw [← hq, Nat.testBit_eq_decide_div_mod_eq]
    rw [this]
    rcases Nat.mod_two_eq_zero_or_one q with h | h <;> rw [h] <;> rfl
  rw [e3]
  rcases Nat.mod_two_eq_zero_or_one q with h | h <;> rw [h] <;> decide
end Go.Proofs.Ytdafmafigcljkaa

