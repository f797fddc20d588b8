/-
  Loops in plain Lean: what a loop comes to. No program, no condition.
-/
import Derived.Test.YtdafmafigcljkaaK5
namespace Go.Proofs.Ytdafmafigcljkaa
open Go Am
set_option linter.unusedVariables false
set_option linter.unusedSimpArgs false

/-- enough rounds for whatever a machine holds -/
def Big (fu : Nat) : Prop := 8589934592 < fu
theorem loop_seq' {S R : Type} {step : S → Option (Lo S R)} (f : Nat → S) (n : Nat) (r : R) (hgo : ∀ k, k < n → step (f k) = some (.go (f (k + 1)))) (hout : step (f n) = some (.out r)) :
    ∀ (m k fu : Nat), k + m = n → m < fu → loopF step fu (f k) = some r
  | 0, k, fu + 1, h, _ => by
    have : k = n := by omega
    subst this; exact loop_out hout
  | m + 1, k, fu + 1, h, hf => by
    rw [loop_go (hgo k (by omega))]; exact loop_seq' f n r hgo hout m (k + 1) fu (by omega) (by omega)
  | 0, _, 0, _, hf => absurd hf (Nat.not_lt_zero _)
  | _ + 1, _, 0, _, hf => absurd hf (Nat.not_lt_zero _)
theorem loop_seq {S R : Type} {step : S → Option (Lo S R)} {fu : Nat} (f : Nat → S) (n : Nat) (r : R) (hf : n < fu) (hgo : ∀ k, k < n → step (f k) = some (.go (f (k + 1)))) (hout : step (f n) = some (.out r)) {s : S} (hs : s = f 0) : loopF step fu s = some r := by
  subst hs; exact loop_seq' f n r hgo hout n 0 fu (by omega) hf
/-- the first place at which p fails, or n -/
def firstNot (p : Nat → Bool) : Nat → Nat
  | 0 => 0
  | n + 1 => if firstNot p n < n then firstNot p n else if p n then n + 1 else n
theorem firstNot_le (p : Nat → Bool) : ∀ n, firstNot p n ≤ n
  | 0 => Nat.le_refl _
  | n + 1 => by
    have := firstNot_le p n
    unfold firstNot; split
    · omega
    · split <;> omega
theorem firstNot_spec (p : Nat → Bool) : ∀ n, (∀ k, k < firstNot p n → p k = true) ∧ (firstNot p n < n → p (firstNot p n) = false)
  | 0 => ⟨fun k h => absurd h (Nat.not_lt_zero _), fun h => absurd h (Nat.not_lt_zero _)⟩
  | n + 1 => by
    have ih := firstNot_spec p n
    have hle := firstNot_le p n
    unfold firstNot
    split
    · rename_i h; exact ⟨ih.1, fun _ => ih.2 h⟩
    · rename_i h
      have e : firstNot p n = n := by omega
      rw [e] at ih
      split
      · rename_i hp
        exact ⟨fun k hk => by rcases Nat.lt_succ_iff_lt_or_eq.1 hk with hk | rfl; exact ih.1 k hk; exact hp, fun h => absurd h (Nat.lt_irrefl _)⟩
      · rename_i hp
        exact ⟨ih.1, fun _ => by simpa using hp⟩
theorem firstNot_all {p : Nat → Bool} {n : Nat} : firstNot p n = n ↔ ∀ k, k < n → p k = true :=
  ⟨fun h k hk => (firstNot_spec p n).1 k (by omega), fun h => by
    rcases Nat.lt_or_ge (firstNot p n) n with h1 | h1
    · have := (firstNot_spec p n).2 h1; rw [h _ h1] at this; cases this
    · have := firstNot_le p n; omega⟩
/-- a loop that may be left early: at the first place at which p fails -/
theorem loop_find {S R : Type} {step : S → Option (Lo S R)} {fu : Nat} (f : Nat → S) (p : Nat → Bool) (n : Nat) (rT : R) (rF : Nat → R) (hf : n < fu) (hgo : ∀ k, k < n → p k = true → (∀ j, j < k → p j = true) → step (f k) = some (.go (f (k + 1))))
    (hF : ∀ k, k < n → p k = false → (∀ j, j < k → p j = true) → step (f k) = some (.out (rF k))) (hT : (∀ j, j < n → p j = true) → step (f n) = some (.out rT)) {s : S} (hs : s = f 0) :
    loopF step fu s = some (if firstNot p n < n then rF (firstNot p n) else rT) := by
  have hs1 := firstNot_spec p n
  have hle := firstNot_le p n
  refine loop_seq f (firstNot p n) _ (by omega) (fun k hk => hgo k (by omega) (hs1.1 k hk) (fun j hj => hs1.1 j (by omega))) ?_ hs
  split
  · rename_i h; exact hF _ h (hs1.2 h) hs1.1
  · rename_i h
    have e : firstNot p n = n := by omega
    have hT' := hT (firstNot_all.1 e)
    rw [e]; exact hT'
theorem loop_all {S : Type} {step : S → Option (Lo S (Unit ⊕ Bool))} {fu : Nat} (f : Nat → S) (p : Nat → Bool) (n : Nat) (hf : n < fu) (hgo : ∀ k, k < n → p k = true → (∀ j, j < k → p j = true) → step (f k) = some (.go (f (k + 1))))
    (hF : ∀ k, k < n → p k = false → (∀ j, j < k → p j = true) → step (f k) = some (.out (.inr false))) (hT : (∀ j, j < n → p j = true) → step (f n) = some (.out (.inl ()))) {s : S} (hs : s = f 0) :
    loopF step fu s = some (if (List.range n).all p then .inl () else .inr false) := by
  rw [loop_find f p n (.inl ()) (fun _ => .inr false) hf hgo hF hT hs]
  congr 1
  have : (List.range n).all p = true ↔ ¬ firstNot p n < n := by
    rw [List.all_eq_true]
    constructor
    · intro h; rw [firstNot_all.2 (fun k hk => h k (List.mem_range.2 hk))]; omega
    · intro h k hk
      have := firstNot_le p n
      exact firstNot_all.1 (by omega) k (List.mem_range.1 hk)
  by_cases h : firstNot p n < n
  · rw [if_pos h, if_neg (fun h' => this.1 h' h)]
  · rw [if_neg h, if_pos (this.2 h)]
theorem bif_dt {α : Type} {p : Prop} [Decidable p] {a b : α} (h : p) : (bif decide p then a else b) = a := by rw [decide_eq_true h]; rfl
theorem bif_df {α : Type} {p : Prop} [Decidable p] {a b : α} (h : ¬ p) : (bif decide p then a else b) = b := by rw [decide_eq_false h]; rfl
theorem bif_nt {α : Type} {p : Prop} [Decidable p] {a b : α} (h : p) : (bif !decide p then a else b) = b := by rw [decide_eq_true h]; rfl
theorem bif_nf {α : Type} {p : Prop} [Decidable p] {a b : α} (h : ¬ p) : (bif !decide p then a else b) = a := by rw [decide_eq_false h]; rfl

theorem chk_inR {α : Type} {i : Int} {n : Nat} {k : Option α} (h0 : 0 ≤ i) (h1 : i < (n : Int)) : chk (inR i n) k = k := chk_t ⟨h0, h1⟩
theorem chk_in64 {α : Type} {x : Int} {k : Option α} (h0 : -9223372036854775808 ≤ x) (h1 : x ≤ 9223372036854775807) : chk (in64 x) k = k := chk_t ⟨h0, h1⟩
theorem chk_and {α : Type} {p q : Prop} [Decidable p] [Decidable q] {k : Option α} (h0 : p) (h1 : q) : chk (p ∧ q) k = k := chk_t ⟨h0, h1⟩
theorem chk_le {α : Type} {a b : Nat} {k : Option α} (h : a ≤ b) : chk (a ≤ b) k = k := chk_t h
theorem chk_ne {α : Type} {a b : Int} {k : Option α} (h : a ≠ b) : chk (a ≠ b) k = k := chk_t h
def cpy (a : List Int) (m i : Nat) : List Int := (List.range m).map fun j => if j < i then rd a j else 0
theorem cpy_length (a : List Int) (m i : Nat) : (cpy a m i).length = m := by simp [cpy]
theorem cpy_zero (a : List Int) (m : Nat) : cpy a m 0 = List.replicate m 0 := by
  apply List.ext_getElem?
  intro j
  by_cases h : j < m <;> simp [cpy, h, List.getElem?_replicate]
theorem cpy_set (a : List Int) (m i : Nat) (h : i < m) : (cpy a m i).set i (rd a i) = cpy a m (i + 1) := by
  apply List.ext_getElem?
  intro j
  rw [List.getElem?_set]
  by_cases hj : i = j
  · subst hj; simp [cpy, h]
  · rw [if_neg hj]
    by_cases h3 : j < m
    · have : (j < i) = (j < i + 1) := propext (by omega)
      simp [cpy, h3, this]
    · simp [cpy, h3]
theorem cpy_full (a : List Int) (m i : Nat) (h : m ≤ i) (hm : a.length = m) : cpy a m i = a := by
  apply List.ext_getElem?
  intro j
  by_cases h3 : j < m
  · simp [cpy, h3, (by omega : j < i), rd, List.getD_eq_getElem?_getD, List.getElem?_eq_getElem (by omega : j < a.length)]
  · rw [List.getElem?_eq_none (by rw [cpy_length]; omega), List.getElem?_eq_none (by omega)]
theorem ints_ext {a b : List Int} (hl : a.length = b.length) (h : ∀ j, j < a.length → rd a j = rd b j) : a = b := by
  apply List.ext_getElem hl
  intro j h1 h2
  have := h j h1
  simpa [rd, List.getD_eq_getElem?_getD, List.getElem?_eq_getElem h1, List.getElem?_eq_getElem h2] using this
theorem rows_ext {a b : List (List Int)} (hl : a.length = b.length) (h : ∀ j, j < a.length → rw_ a j = rw_ b j) : a = b := by
  apply List.ext_getElem hl
  intro j h1 h2
  have := h j h1
  simpa [rw_, List.getD_eq_getElem?_getD, List.getElem?_eq_getElem h1, List.getElem?_eq_getElem h2] using this
theorem rw_mem {l : List (List Int)} {k : Nat} (h : k < l.length) : rw_ l k ∈ l := by
  unfold rw_; rw [List.getD_eq_getElem?_getD, List.getElem?_eq_getElem h]; exact List.getElem_mem h
theorem rw_of {l : List (List Int)} {r : List Int} (h : r ∈ l) : ∃ k, k < l.length ∧ rw_ l k = r := by
  obtain ⟨k, hk, rfl⟩ := List.getElem_of_mem h
  exact ⟨k, hk, by simp [rw_, List.getD_eq_getElem?_getD, List.getElem?_eq_getElem hk]⟩
theorem rd_set {l : List Int} {i j : Nat} {x : Int} (hi : i < l.length) : rd (l.set i x) j = if i = j then x else rd l j := by
  unfold rd
  rw [List.getD_eq_getElem?_getD, List.getD_eq_getElem?_getD, List.getElem?_set]
  by_cases h : i = j
  · subst h; simp [hi]
  · simp [h]
theorem rw_set' {l : List (List Int)} {i j : Nat} {x : List Int} (hi : i < l.length) : rw_ (l.set i x) j = if i = j then x else rw_ l j := by
  unfold rw_
  rw [List.getD_eq_getElem?_getD, List.getD_eq_getElem?_getD, List.getElem?_set]
  by_cases h : i = j
  · subst h; simp [hi]
  · simp [h]
end Go.Proofs.Ytdafmafigcljkaa

