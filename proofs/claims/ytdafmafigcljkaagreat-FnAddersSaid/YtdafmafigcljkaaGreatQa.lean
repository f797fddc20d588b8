/-
  Texts joined: Pu0, PuL, PuM, PuR, PuRO, PuSq, PuN, PuT, PuSt, PuZ, PuJ, PuD. Plain Lean. No condition.
-/
import Derived.Test.YtdafmafigcljkaaGreatK5
import Derived.Test.YtdafmafigcljkaaGreatDA
import Derived.Test.YtdafmafigcljkaaGreatDMb
import Derived.Test.YtdafmafigcljkaaGreatDB
import Derived.Test.YtdafmafigcljkaaGreatDSo
namespace Go.Proofs.YtdafmafigcljkaaGreat
open Go Am
set_option linter.unusedVariables false
set_option linter.unusedSimpArgs false
def Big (fu : Nat) : Prop := 8589934592 < fu
theorem loop_seq' {S R : Type} {step : S → Option (Lo S R)} (f : Nat → S) (n : Nat) (r : R) (hgo : ∀ k, k < n → step (f k) = some (.go (f (k + 1)))) (hout : step (f n) = some (.out r)) :
    ∀ (m k fu : Nat), k + m = n → m < fu → loopF step fu (f k) = some r
  | 0, k, fu + 1, h, _ => by
    have : k = n := by omega
    subst this; exact loop_out hout
  | m + 1, k, fu + 1, h, hf => by
    rw [loop_go (hgo k (by omega))]; exact loop_seq' f n r hgo hout m (k + 1) fu (by omega) (by omega)
  | 0, _, 0, _, hf => absurd hf (Nat.not_lt_zero _)
  | _ + 1, _, 0, _, hf => absurd hf (Nat.not_lt_zero _)
theorem loop_seq {S R : Type} {step : S → Option (Lo S R)} {fu : Nat} (f : Nat → S) (n : Nat) (r : R) (hf : n < fu) (hgo : ∀ k, k < n → step (f k) = some (.go (f (k + 1)))) (hout : step (f n) = some (.out r)) {s : S} (hs : s = f 0) : loopF step fu s = some r := by
  subst hs; exact loop_seq' f n r hgo hout n 0 fu (by omega) hf
def firstNot (p : Nat → Bool) : Nat → Nat
  | 0 => 0
  | n + 1 => if firstNot p n < n then firstNot p n else if p n then n + 1 else n
theorem firstNot_le (p : Nat → Bool) : ∀ n, firstNot p n ≤ n
  | 0 => Nat.le_refl _
  | n + 1 => by
    have := firstNot_le p n
    unfold firstNot; split
    · omega
    · split <;> omega
theorem firstNot_spec (p : Nat → Bool) : ∀ n, (∀ k, k < firstNot p n → p k = true) ∧ (firstNot p n < n → p (firstNot p n) = false)
  | 0 => ⟨fun k h => absurd h (Nat.not_lt_zero _), fun h => absurd h (Nat.not_lt_zero _)⟩
  | n + 1 => by
    have ih := firstNot_spec p n
    have hle := firstNot_le p n
    unfold firstNot
    split
    · rename_i h; exact ⟨ih.1, fun _ => ih.2 h⟩
    · rename_i h
      have e : firstNot p n = n := by omega
      rw [e] at ih
      split
      · rename_i hp
        exact ⟨fun k hk => by rcases Nat.lt_succ_iff_lt_or_eq.1 hk with hk | rfl; exact ih.1 k hk; exact hp, fun h => absurd h (Nat.lt_irrefl _)⟩
      · rename_i hp
        exact ⟨ih.1, fun _ => by simpa using hp⟩
theorem firstNot_all {p : Nat → Bool} {n : Nat} : firstNot p n = n ↔ ∀ k, k < n → p k = true :=
  ⟨fun h k hk => (firstNot_spec p n).1 k (by omega), fun h => by
    rcases Nat.lt_or_ge (firstNot p n) n with h1 | h1
    · have := (firstNot_spec p n).2 h1; rw [h _ h1] at this; cases this
    · have := firstNot_le p n; omega⟩
theorem loop_find {S R : Type} {step : S → Option (Lo S R)} {fu : Nat} (f : Nat → S) (p : Nat → Bool) (n : Nat) (rT : R) (rF : Nat → R) (hf : n < fu) (hgo : ∀ k, k < n → p k = true → (∀ j, j < k → p j = true) → step (f k) = some (.go (f (k + 1))))
    (hF : ∀ k, k < n → p k = false → (∀ j, j < k → p j = true) → step (f k) = some (.out (rF k))) (hT : (∀ j, j < n → p j = true) → step (f n) = some (.out rT)) {s : S} (hs : s = f 0) :
    loopF step fu s = some (if firstNot p n < n then rF (firstNot p n) else rT) := by
  have hs1 := firstNot_spec p n
  have hle := firstNot_le p n
  refine loop_seq f (firstNot p n) _ (by omega) (fun k hk => hgo k (by omega) (hs1.1 k hk) (fun j hj => hs1.1 j (by omega))) ?_ hs
  split
  · rename_i h; exact hF _ h (hs1.2 h) hs1.1
  · rename_i h
    have e : firstNot p n = n := by omega
    have hT' := hT (firstNot_all.1 e)
    rw [e]; exact hT'
theorem loop_all {S : Type} {step : S → Option (Lo S (Unit ⊕ Bool))} {fu : Nat} (f : Nat → S) (p : Nat → Bool) (n : Nat) (hf : n < fu) (hgo : ∀ k, k < n → p k = true → (∀ j, j < k → p j = true) → step (f k) = some (.go (f (k + 1))))
    (hF : ∀ k, k < n → p k = false → (∀ j, j < k → p j = true) → step (f k) = some (.out (.inr false))) (hT : (∀ j, j < n → p j = true) → step (f n) = some (.out (.inl ()))) {s : S} (hs : s = f 0) :
    loopF step fu s = some (if (List.range n).all p then .inl () else .inr false) := by
  rw [loop_find f p n (.inl ()) (fun _ => .inr false) hf hgo hF hT hs]
  congr 1
  have : (List.range n).all p = true ↔ ¬ firstNot p n < n := by
    rw [List.all_eq_true]
    constructor
    · intro h; rw [firstNot_all.2 (fun k hk => h k (List.mem_range.2 hk))]; omega
    · intro h k hk
      have := firstNot_le p n
      exact firstNot_all.1 (by omega) k (List.mem_range.1 hk)
  by_cases h : firstNot p n < n
  · rw [if_pos h, if_neg (fun h' => this.1 h' h)]
  · rw [if_neg h, if_pos (this.2 h)]
theorem bif_dt {α : Type} {p : Prop} [Decidable p] {a b : α} (h : p) : (bif decide p then a else b) = a := by rw [decide_eq_true h]; rfl
theorem bif_df {α : Type} {p : Prop} [Decidable p] {a b : α} (h : ¬ p) : (bif decide p then a else b) = b := by rw [decide_eq_false h]; rfl
theorem bif_nt {α : Type} {p : Prop} [Decidable p] {a b : α} (h : p) : (bif !decide p then a else b) = b := by rw [decide_eq_true h]; rfl
theorem bif_nf {α : Type} {p : Prop} [Decidable p] {a b : α} (h : ¬ p) : (bif !decide p then a else b) = a := by rw [decide_eq_false h]; rfl
theorem chk_inR {α : Type} {i : Int} {n : Nat} {k : Option α} (h0 : 0 ≤ i) (h1 : i < (n : Int)) : chk (inR i n) k = k := chk_t ⟨h0, h1⟩
theorem chk_in64 {α : Type} {x : Int} {k : Option α} (h0 : -9223372036854775808 ≤ x) (h1 : x ≤ 9223372036854775807) : chk (in64 x) k = k := chk_t ⟨h0, h1⟩
theorem chk_and {α : Type} {p q : Prop} [Decidable p] [Decidable q] {k : Option α} (h0 : p) (h1 : q) : chk (p ∧ q) k = k := chk_t ⟨h0, h1⟩
theorem chk_le {α : Type} {a b : Nat} {k : Option α} (h : a ≤ b) : chk (a ≤ b) k = k := chk_t h
theorem chk_ne {α : Type} {a b : Int} {k : Option α} (h : a ≠ b) : chk (a ≠ b) k = k := chk_t h
theorem rw_mem {l : List (List Int)} {k : Nat} (h : k < l.length) : rw_ l k ∈ l := by
  unfold rw_; rw [List.getD_eq_getElem?_getD, List.getElem?_eq_getElem h]; exact List.getElem_mem h
theorem rw_of {l : List (List Int)} {r : List Int} (h : r ∈ l) : ∃ k, k < l.length ∧ rw_ l k = r := by
  obtain ⟨k, hk, rfl⟩ := List.getElem_of_mem h
  exact ⟨k, hk, by simp [rw_, List.getD_eq_getElem?_getD, List.getElem?_eq_getElem hk]⟩
end Go.Proofs.YtdafmafigcljkaaGreat
namespace Go.Proofs.YtdafmafigcljkaaGreat
open Go Am
set_option linter.unusedVariables false
set_option linter.unusedSimpArgs false
end Go.Proofs.YtdafmafigcljkaaGreat
namespace Go.Proofs.YtdafmafigcljkaaGreat
open Go Am
set_option linter.unusedVariables false
set_option linter.unusedSimpArgs false
theorem drop_rw {rs : List (List Int)} {k : Nat} (h : k < rs.length) : rs.drop k = rw_ rs k :: rs.drop (k + 1) := by
  rw [List.drop_eq_getElem_cons h]; congr 1
  simp [rw_, List.getD_eq_getElem?_getD, List.getElem?_eq_getElem h]
theorem take_rw {rs : List (List Int)} {k : Nat} (h : k < rs.length) : rs.take (k + 1) = rs.take k ++ [rw_ rs k] := by
  rw [List.take_add_one, List.getElem?_eq_getElem h]
  simp [rw_, List.getD_eq_getElem?_getD, List.getElem?_eq_getElem h]
end Go.Proofs.YtdafmafigcljkaaGreat
namespace Go.Proofs.YtdafmafigcljkaaGreat
open Go Am
set_option linter.unusedVariables false
set_option linter.unusedSimpArgs false
def inB (n lo hi : Int) : Bool := decide (lo ≤ n) && decide (n ≤ hi)
theorem inB_of {n lo hi : Int} (h : inB n lo hi = true) : lo ≤ n ∧ n ≤ hi := by simpa [inB] using h
theorem inB_t {n lo hi : Int} (h : lo ≤ n ∧ n ≤ hi) : inB n lo hi = true := by simpa [inB] using h
theorem l01In_D (fu : Nat) (a b c : Int) : D_spec_l01In fu a b c = some (inB a b c) := rfl
theorem between_D (fu : Nat) (a b c : Int) : D_impl_between fu a b c = some (inB a b c) := rfl
theorem bif_true {α : Type} {a b : α} : (bif true then a else b) = a := rfl
theorem bif_false {α : Type} {a b : α} : (bif false then a else b) = b := rfl
end Go.Proofs.YtdafmafigcljkaaGreat
namespace Go.Proofs.YtdafmafigcljkaaGreat
open Go Am
set_option linter.unusedVariables false
set_option linter.unusedSimpArgs false
theorem IndexFuncT_D {fu : Nat} (hf : Big fu) {rs : List (List Int)} (hl : rs.length ≤ 4294967296) {q : List Int → Option Bool} {p : List Int → Bool} (hq : ∀ r ∈ rs, q r = some (p r)) :
    ∃ x, D_slices_IndexFunc_SSint64_Sint64 fu rs q = some x ∧ decide (0 ≤ x) = rs.any p := by
  unfold Big at hf
  unfold D_slices_IndexFunc_SSint64_Sint64
  rw [loop_find (fun k => (k : Int)) (fun k => !p (rw_ rs k)) rs.length (.inl ()) (fun k => .inr (k : Int)) (by omega) ?_ ?_ ?_ (s := 0) rfl]
  · have hle := firstNot_le (fun k => !p (rw_ rs k)) rs.length
    have hsp := firstNot_spec (fun k => !p (rw_ rs k)) rs.length
    generalize hm : firstNot (fun k => !p (rw_ rs k)) rs.length = m at hle hsp
    by_cases h : m < rs.length
    · refine ⟨(m : Int), by rw [if_pos h]; rfl, ?_⟩
      have h1 : p (rw_ rs m) = true := by simpa using hsp.2 h
      rw [decide_eq_true (by omega)]
      exact (List.any_eq_true.2 ⟨_, rw_mem h, h1⟩).symm
    · refine ⟨-1, by rw [if_neg h]; rfl, ?_⟩
      have : rs.any p = false := by
        rw [List.any_eq_false]
        intro r hr
        obtain ⟨k, hk, rfl⟩ := rw_of hr
        have := hsp.1 k (by omega)
        simpa using this
      rw [this]; rfl
  all_goals first | (intro k hk hp _) | intro _
  · have hp' : p (rw_ rs k) = false := by simpa using hp
    unfold D_slices_IndexFunc_SSint64_Sint64_s0
    simp (disch := omega) only [bif_dt, chk_inR, chk_in64, Int.toNat_natCast, hq _ (rw_mem hk), Option.bind_some, hp', bif_false]
    rfl
  · have hp' : p (rw_ rs k) = true := by simpa using hp
    unfold D_slices_IndexFunc_SSint64_Sint64_s0
    simp (disch := omega) only [bif_dt, chk_inR, chk_in64, Int.toNat_natCast, hq _ (rw_mem hk), Option.bind_some, hp', bif_true]
  · unfold D_slices_IndexFunc_SSint64_Sint64_s0
    simp (disch := omega) only [bif_df]
theorem ContainsFuncT_D {fu : Nat} (hf : Big fu) {rs : List (List Int)} (hl : rs.length ≤ 4294967296) {q : List Int → Option Bool} {p : List Int → Bool} (hq : ∀ r ∈ rs, q r = some (p r)) : D_slices_ContainsFunc_SSint64_Sint64 fu rs q = some (rs.any p) := by
  obtain ⟨x, h1, h2⟩ := IndexFuncT_D hf hl hq
  unfold D_slices_ContainsFunc_SSint64_Sint64
  rw [h1, Option.bind_some, h2]
theorem rdb_set {l : List Bool} {i j : Nat} {x : Bool} (hi : i < l.length) : rdb (l.set i x) j = if i = j then x else rdb l j := by
  unfold rdb
  rw [List.getD_eq_getElem?_getD, List.getD_eq_getElem?_getD, List.getElem?_set]
  by_cases h : i = j
  · subst h; simp [hi]
  · simp [h]
theorem all_range {n : Nat} {p : Nat → Bool} : (List.range n).all p = true ↔ ¬ firstNot p n < n := by
  rw [List.all_eq_true]
  constructor
  · intro h; rw [firstNot_all.2 (fun k hk => h k (List.mem_range.2 hk))]; omega
  · intro h k hk
    have := firstNot_le p n
    exact firstNot_all.1 (by omega) k (List.mem_range.1 hk)
end Go.Proofs.YtdafmafigcljkaaGreat
namespace Go.Proofs.YtdafmafigcljkaaGreat
open Go Am
set_option linter.unusedVariables false
set_option linter.unusedSimpArgs false
theorem rd_mem {l : List Int} {k : Nat} (h : k < l.length) : rd l k ∈ l := by
  unfold rd; rw [List.getD_eq_getElem?_getD, List.getElem?_eq_getElem h]; exact List.getElem_mem h
theorem rd_of {l : List Int} {r : Int} (h : r ∈ l) : ∃ k, k < l.length ∧ rd l k = r := by
  obtain ⟨k, hk, rfl⟩ := List.getElem_of_mem h
  exact ⟨k, hk, by simp [rd, List.getD_eq_getElem?_getD, List.getElem?_eq_getElem hk]⟩
theorem IndexFuncI_D {fu : Nat} (hf : Big fu) {rs : List Int} (hl : rs.length ≤ 4294967296) {q : Int → Option Bool} {p : Int → Bool} (hq : ∀ r ∈ rs, q r = some (p r)) :
    ∃ x, D_slices_IndexFunc_Sint64_int64 fu rs q = some x ∧ decide (0 ≤ x) = rs.any p := by
  unfold Big at hf
  unfold D_slices_IndexFunc_Sint64_int64
  rw [loop_find (fun k => (k : Int)) (fun k => !p (rd rs k)) rs.length (.inl ()) (fun k => .inr (k : Int)) (by omega) ?_ ?_ ?_ (s := 0) rfl]
  · have hle := firstNot_le (fun k => !p (rd rs k)) rs.length
    have hsp := firstNot_spec (fun k => !p (rd rs k)) rs.length
    generalize hm : firstNot (fun k => !p (rd rs k)) rs.length = m at hle hsp
    by_cases h : m < rs.length
    · refine ⟨(m : Int), by rw [if_pos h]; rfl, ?_⟩
      have h1 : p (rd rs m) = true := by simpa using hsp.2 h
      rw [decide_eq_true (by omega)]
      exact (List.any_eq_true.2 ⟨_, rd_mem h, h1⟩).symm
    · refine ⟨-1, by rw [if_neg h]; rfl, ?_⟩
      have : rs.any p = false := by
        rw [List.any_eq_false]
        intro r hr
        obtain ⟨k, hk, rfl⟩ := rd_of hr
        have := hsp.1 k (by omega)
        simpa using this
      rw [this]; rfl
  all_goals first | (intro k hk hp _) | intro _
  · have hp' : p (rd rs k) = false := by simpa using hp
    unfold D_slices_IndexFunc_Sint64_int64_s0
    simp (disch := omega) only [bif_dt, chk_inR, chk_in64, Int.toNat_natCast, hq _ (rd_mem hk), Option.bind_some, hp', bif_false]
    rfl
  · have hp' : p (rd rs k) = true := by simpa using hp
    unfold D_slices_IndexFunc_Sint64_int64_s0
    simp (disch := omega) only [bif_dt, chk_inR, chk_in64, Int.toNat_natCast, hq _ (rd_mem hk), Option.bind_some, hp', bif_true]
  · unfold D_slices_IndexFunc_Sint64_int64_s0
    simp (disch := omega) only [bif_df]
theorem ContainsFuncI_D {fu : Nat} (hf : Big fu) {rs : List Int} (hl : rs.length ≤ 4294967296) {q : Int → Option Bool} {p : Int → Bool} (hq : ∀ r ∈ rs, q r = some (p r)) : D_slices_ContainsFunc_Sint64_int64 fu rs q = some (rs.any p) := by
  obtain ⟨x, h1, h2⟩ := IndexFuncI_D hf hl hq
  unfold D_slices_ContainsFunc_Sint64_int64
  rw [h1, Option.bind_some, h2]
theorem any_not {α : Type} {p : α → Bool} : ∀ {l : List α}, l.any (fun x => !p x) = !l.all p
  | [] => rfl
  | x :: l => by rw [List.any_cons, List.all_cons, any_not, Bool.not_and]
theorem all_rd {l : List Int} {p : Int → Bool} : (List.range l.length).all (fun k => p (rd l k)) = l.all p := by
  rw [Bool.eq_iff_iff, List.all_eq_true, List.all_eq_true]
  constructor
  · intro h r hr
    obtain ⟨k, hk, rfl⟩ := rd_of hr
    exact h k (List.mem_range.2 hk)
  · intro h k hk
    exact h _ (rd_mem (List.mem_range.1 hk))
end Go.Proofs.YtdafmafigcljkaaGreat
namespace Go.Proofs.YtdafmafigcljkaaGreat
open Go Am
set_option linter.unusedVariables false
set_option linter.unusedSimpArgs false
end Go.Proofs.YtdafmafigcljkaaGreat
namespace Go.Proofs.YtdafmafigcljkaaGreat
open Go Am
set_option linter.unusedVariables false
set_option linter.unusedSimpArgs false
def optF {σ : Type} (g : Nat → σ → Option σ) : Nat → Nat → σ → Option σ
  | 0, _, s => some s
  | m + 1, k, s => (g k s).bind (optF g m (k + 1))
theorem optF_succ {σ : Type} (g : Nat → σ → Option σ) (m k : Nat) (s : σ) : optF g (m + 1) k s = (g k s).bind (optF g m (k + 1)) := rfl
theorem loop_optF' {σ R : Type} {step : σ × Int → Option (Lo (σ × Int) R)} (g : Nat → σ → Option σ) (P : Nat → σ → Prop) (n : Nat) (rT : σ → R) (rF : R)
    (hgo : ∀ k s s', k < n → P k s → g k s = some s' → step (s, (k : Int)) = some (.go (s', (k : Int) + 1)) ∧ P (k + 1) s') (hF : ∀ k s, k < n → P k s → g k s = none → step (s, (k : Int)) = some (.out rF)) (hT : ∀ s, P n s → step (s, (n : Int)) = some (.out (rT s))) :
    ∀ (m k fu : Nat) (s : σ), k + m = n → m < fu → P k s → loopF step fu (s, (k : Int)) = some ((optF g m k s).elim rF rT)
  | 0, k, fu + 1, s, h, _, hP => by
    have : k = n := by omega
    subst this; exact loop_out (hT s hP)
  | m + 1, k, fu + 1, s, h, hf, hP => by
    cases hg : g k s with
    | none => rw [loop_out (hF k s (by omega) hP hg), optF_succ, hg]; rfl
    | some s' =>
      obtain ⟨h1, h2⟩ := hgo k s s' (by omega) hP hg
      rw [loop_go h1]
      have := loop_optF' g P n rT rF hgo hF hT m (k + 1) fu s' (by omega) (by omega) h2
      rw [show ((k : Int) + 1) = ((k + 1 : Nat) : Int) by omega, this, optF_succ, hg]; rfl
  | 0, _, 0, _, _, hf, _ => absurd hf (Nat.not_lt_zero _)
  | _ + 1, _, 0, _, _, hf, _ => absurd hf (Nat.not_lt_zero _)
theorem loop_optF {σ R : Type} {step : σ × Int → Option (Lo (σ × Int) R)} {fu : Nat} (g : Nat → σ → Option σ) (P : Nat → σ → Prop) (n : Nat) (rT : σ → R) (rF : R) (hf : n < fu) {s : σ} (hP : P 0 s)
    (hgo : ∀ k s s', k < n → P k s → g k s = some s' → step (s, (k : Int)) = some (.go (s', (k : Int) + 1)) ∧ P (k + 1) s') (hF : ∀ k s, k < n → P k s → g k s = none → step (s, (k : Int)) = some (.out rF)) (hT : ∀ s, P n s → step (s, (n : Int)) = some (.out (rT s))) :
    loopF step fu (s, 0) = some ((optF g n 0 s).elim rF rT) := loop_optF' g P n rT rF hgo hF hT n 0 fu s (by omega) hf hP
theorem optF_drop {σ : Type} (h : σ → Int → Option σ) (l : List Int) : ∀ (m k : Nat) (s : σ), k + m = l.length → optF (fun k s => h s (rd l k)) m k s = (l.drop k).foldlM h s
  | 0, k, s, e => by rw [List.drop_of_length_le (by omega)]; rfl
  | m + 1, k, s, e => by
    have hk : k < l.length := by omega
    have : l.drop k = rd l k :: l.drop (k + 1) := by
      rw [List.drop_eq_getElem_cons hk]; simp [rd, List.getD_eq_getElem?_getD, List.getElem?_eq_getElem hk]
    rw [this, List.foldlM_cons]
    rw [optF_succ]
    show Option.bind _ _ = Option.bind _ _
    congr 1; funext s'; exact optF_drop h l m (k + 1) s' (by omega)
theorem optF_list {σ : Type} (h : σ → Int → Option σ) (l : List Int) (s : σ) : optF (fun k s => h s (rd l k)) l.length 0 s = l.foldlM h s := optF_drop h l _ 0 s (by omega)
theorem optF_dropR {σ : Type} (h : σ → List Int → Option σ) (l : List (List Int)) : ∀ (m k : Nat) (s : σ), k + m = l.length → optF (fun k s => h s (rw_ l k)) m k s = (l.drop k).foldlM h s
  | 0, k, s, e => by rw [List.drop_of_length_le (by omega)]; rfl
  | m + 1, k, s, e => by
    rw [drop_rw (by omega : k < l.length), List.foldlM_cons]
    rw [optF_succ]
    show Option.bind _ _ = Option.bind _ _
    congr 1; funext s'; exact optF_dropR h l m (k + 1) s' (by omega)
theorem optF_listR {σ : Type} (h : σ → List Int → Option σ) (l : List (List Int)) (s : σ) : optF (fun k s => h s (rw_ l k)) l.length 0 s = l.foldlM h s := optF_dropR h l _ 0 s (by omega)
end Go.Proofs.YtdafmafigcljkaaGreat
namespace Go.Proofs.YtdafmafigcljkaaGreat
open Go Am
set_option linter.unusedVariables false
set_option linter.unusedSimpArgs false
def isMod (m : Int) : Bool := inB m 3 13 && decide (m.tmod 2 = 1)
theorem l03Modulus_D (fu : Nat) (m : Int) : D_spec_l03Modulus fu m = some (isMod m) := by
  unfold D_spec_l03Modulus isMod
  rw [l01In_D, Option.bind_some]
  cases inB m 3 13 <;> rfl
theorem isModulus_D (fu : Nat) (m : Int) : D_impl_isModulus fu m = some (isMod m) := by
  unfold D_impl_isModulus isMod
  rw [between_D, Option.bind_some]
  cases inB m 3 13 <;> rfl
theorem isMod_of {m : Int} (h : isMod m = true) : 3 ≤ m ∧ m ≤ 13 ∧ m % 2 = 1 := by
  unfold isMod at h
  rw [Bool.and_eq_true, decide_eq_true_eq] at h
  have := inB_of h.1
  rw [Int.tmod_eq_emod_of_nonneg (by omega)] at h
  omega
def okS (m : Int) (p : List Int) : Bool := decide (p.length = 2) && inB (rd p 0) 1 (m - 1) && inB (rd p 1) 1 (m - 1) && !decide (rd p 0 = rd p 1)
theorem okS_of {m : Int} {p : List Int} (h : okS m p = true) : p.length = 2 ∧ (1 ≤ rd p 0 ∧ rd p 0 ≤ m - 1) ∧ (1 ≤ rd p 1 ∧ rd p 1 ≤ m - 1) ∧ rd p 0 ≠ rd p 1 := by
  unfold okS at h
  simp only [Bool.and_eq_true, decide_eq_true_eq, Bool.not_eq_true', decide_eq_false_iff_not] at h
  exact ⟨h.1.1.1, inB_of h.1.1.2, inB_of h.1.2, h.2⟩
theorem arePairs1_D {fu : Nat} {m : Int} (hn : 3 ≤ m ∧ m ≤ 13) (p : List Int) : D_impl_arePairs_1 fu p m = some (!okS m p) := by
  unfold D_impl_arePairs_1 okS
  by_cases h : p.length = 2
  · have h' : ((p.length : Nat) : Int) = 2 := by omega
    generalize hd : decide (rd p 0 = rd p 1) = d
    cases h0 : inB (rd p 0) 1 (m - 1) <;> cases h1 : inB (rd p 1) 1 (m - 1) <;> cases d <;>
      simp (disch := omega) only [bif_nt, chk_inR, chk_in64, between_D, Option.bind_some, h0, h1, h, Bool.not_true, Bool.not_false, bif_true, bif_false, decide_true, Bool.true_and, Bool.false_and, hd, Bool.and_true, Bool.and_false]
  · have h' : ¬ ((p.length : Nat) : Int) = 2 := by omega
    rw [bif_nf h', decide_eq_false h]; rfl
theorem arePairs_D {fu : Nat} (hf : Big fu) {m : Int} (hn : 3 ≤ m ∧ m ≤ 13) {ps : List (List Int)} (hl : ps.length ≤ 4294967296) : D_impl_arePairs fu m ps = some (ps.all (okS m)) := by
  unfold D_impl_arePairs
  rw [ContainsFuncT_D hf hl (p := fun p => !okS m p) (fun r _ => arePairs1_D hn r), Option.bind_some, any_not, Bool.not_not]
theorem l03Lists_D {fu : Nat} (hf : Big fu) {m : Int} (hn : 3 ≤ m ∧ m ≤ 13) {ps : List (List Int)} (hl : ps.length ≤ 4294967296) : D_spec_l03Lists fu m ps = some (ps.all (okS m)) := by
  unfold Big at hf
  unfold D_spec_l03Lists
  rw [loop_all (fun k => (k : Int)) (fun k => okS m (rw_ ps k)) ps.length (by omega) ?_ ?_ ?_ (s := 0) rfl]
  · have : (List.range ps.length).all (fun k => okS m (rw_ ps k)) = ps.all (okS m) := by
      rw [Bool.eq_iff_iff, List.all_eq_true, List.all_eq_true]
      constructor
      · intro h r hr
        obtain ⟨k, hk, rfl⟩ := rw_of hr
        exact h k (List.mem_range.2 hk)
      · intro h k hk
        exact h _ (rw_mem (List.mem_range.1 hk))
    rw [this]
    cases ps.all (okS m) <;> rfl
  all_goals first | (intro k hk hp _) | intro _
  · obtain ⟨o0, o1, o2, o3⟩ := okS_of hp
    unfold D_spec_l03Lists_s0
    simp (disch := omega) only [bif_dt, chk_inR, chk_in64, Int.toNat_natCast, l01In_D, inB_t o1, inB_t o2, decide_true, o0, Bool.not_true, Option.bind_some, bif_false, decide_eq_false o3, (show (((2 : Nat) : Int) = 2) from rfl)]
    rfl
  · unfold okS at hp
    unfold D_spec_l03Lists_s0
    generalize hd : decide (rd (rw_ ps k) 0 = rd (rw_ ps k) 1) = d at hp
    generalize h0 : inB (rd (rw_ ps k) 0) 1 (m - 1) = e0 at hp
    generalize h1 : inB (rd (rw_ ps k) 1) 1 (m - 1) = e1 at hp
    by_cases hl2 : (rw_ ps k).length = 2
    · have hl2' : (((rw_ ps k).length : Nat) : Int) = 2 := by omega
      rw [decide_eq_true hl2] at hp
      cases e0 <;> cases e1 <;> cases d <;> first
        | (exact absurd hp (by decide))
        | simp (disch := omega) only [bif_dt, bif_nf, bif_nt, chk_inR, chk_in64, Int.toNat_natCast, l01In_D, h0, h1, hd, hl2, hl2', decide_true, Bool.not_true, Bool.not_false, Option.bind_some, bif_false, bif_true]
    · have hl2' : ¬ (((rw_ ps k).length : Nat) : Int) = 2 := by omega
      simp (disch := omega) only [bif_dt, chk_inR, chk_in64, Int.toNat_natCast, decide_eq_false hl2', Bool.not_false, Option.bind_some, bif_true]
  · unfold D_spec_l03Lists_s0
    simp (disch := omega) only [bif_df]
def addk (K : List Int) (x : Int) : List Int := if x ∈ K then K else K ++ [x]
theorem mf_none {k : Int} : ∀ {l : List (Int × Bool)} {i : Nat}, (mf k l i).isSome = decide (k ∈ l.map (·.1))
  | [], _ => by simp [mf]
  | e :: l, i => by
    unfold mf
    by_cases h : k = e.1
    · simp [h]
    · rw [if_neg h, mf_none]; simp [h]
theorem ment_keys (l : List (Int × Bool)) (k : Int) : (ment l k).map (·.1) = addk (l.map (·.1)) k := by
  unfold ment addk
  rw [mf_none]
  by_cases h : k ∈ l.map (·.1) <;> simp [h]
theorem mst_keys (l : List (Int × Bool)) (i : Nat) (b : Bool) : (mst l i b).map (·.1) = l.map (·.1) := by
  unfold mst
  apply List.ext_getElem?
  intro j
  rw [List.getElem?_map, List.getElem?_map, List.getElem?_modify]
  by_cases h : i = j
  · subst h; cases l[i]? <;> simp
  · simp [h]
theorem addk_len (K : List Int) (x : Int) : (addk K x).length = K.length + if x ∈ K then 0 else 1 := by
  unfold addk; split <;> simp
theorem addk_mem {K : List Int} {x z : Int} : z ∈ addk K x ↔ z ∈ K ∨ z = x := by
  unfold addk; split
  · rename_i h
    constructor
    · exact .inl
    · rintro (h' | rfl)
      · exact h'
      · exact h
  · simp
def ins2 (a b : Nat → Int) : Nat → List Int
  | 0 => []
  | k + 1 => addk (addk (ins2 a b k) (a k)) (b k)
theorem ins2_len (a b : Nat → Int) : ∀ k, (ins2 a b k).length ≤ 2 * k ∧ ((ins2 a b k).length = 2 * k ↔ ∀ j, j < k → a j ∉ ins2 a b j ∧ b j ∉ ins2 a b j ∧ a j ≠ b j)
  | 0 => ⟨by simp [ins2], by simp [ins2]⟩
  | k + 1 => by
    obtain ⟨h1, h2⟩ := ins2_len a b k
    have e : (ins2 a b (k + 1)).length = (ins2 a b k).length + (if a k ∈ ins2 a b k then 0 else 1) + if b k ∈ addk (ins2 a b k) (a k) then 0 else 1 := by
      show (addk (addk _ _) _).length = _
      rw [addk_len, addk_len]
    refine ⟨by rw [e]; split <;> split <;> omega, ?_⟩
    constructor
    · intro h j hj
      rw [e] at h
      have ha : a k ∉ ins2 a b k := fun h' => by rw [if_pos h'] at h; split at h <;> omega
      have hb : b k ∉ addk (ins2 a b k) (a k) := fun h' => by rw [if_pos h'] at h; split at h <;> omega
      rw [if_neg ha, if_neg hb] at h
      rcases Nat.lt_succ_iff_lt_or_eq.1 hj with hj | rfl
      · exact h2.1 (by omega) j hj
      · exact ⟨ha, fun h' => hb (addk_mem.2 (.inl h')), fun h' => hb (addk_mem.2 (.inr h'.symm))⟩
    · intro h
      have hk := h k (by omega)
      have := h2.2 fun j hj => h j (by omega)
      rw [e, if_neg hk.1, if_neg (fun h' => (addk_mem.1 h').elim hk.2.1 (fun h'' => hk.2.2 h''.symm))]; omega
def insM (l : List (Int × Bool)) (k : Int) : List (Int × Bool) := mst (ment l k) (mi l k) true
def insL (a b : Nat → Int) : Nat → List (Int × Bool)
  | 0 => []
  | k + 1 => insM (insM (insL a b k) (a k)) (b k)
theorem insL_keys (a b : Nat → Int) : ∀ k, (insL a b k).map (·.1) = ins2 a b k
  | 0 => rfl
  | k + 1 => by
    show (insM (insM _ _) _).map (·.1) = addk (addk _ _) _
    unfold insM
    rw [mst_keys, ment_keys, mst_keys, ment_keys, insL_keys a b k]
theorem insL_len (a b : Nat → Int) (k : Nat) : (insL a b k).length = (ins2 a b k).length := by rw [← insL_keys, List.length_map]
def sx (ps : List (List Int)) (j : Nat) : Int := rd (rw_ ps j) 0
def sy (ps : List (List Int)) (j : Nat) : Int := rd (rw_ ps j) 1
def sd (ps : List (List Int)) (j : Nat) : Int := sy ps j - sx ps j
def se (m : Int) (ps : List (List Int)) (j : Nat) : Int := m - sy ps j + sx ps j
def ord (ps : List (List Int)) (j : Nat) : Bool := !decide (sy ps j < sx ps j) && (decide (j = 0) || !decide (sx ps j < sx ps (j - 1)))
def isSt (m : Int) (ps : List (List Int)) : Bool := (List.range ps.length).all (ord ps) && (decide (2 * (ps.length : Int) = m - 1) && (decide (((ins2 (sx ps) (sy ps) ps.length).length : Int) = m - 1) && decide (((ins2 (sd ps) (se m ps) ps.length).length : Int) = m - 1)))
theorem isStarter_D {fu : Nat} (hf : Big fu) {m : Int} (hn : 3 ≤ m ∧ m ≤ 13) {ps : List (List Int)} (hl : ps.length ≤ 4294967296) (hok : ∀ p ∈ ps, okS m p = true) : D_impl_isStarter fu m ps = some (isSt m ps) := by
  unfold Big at hf
  unfold D_impl_isStarter isSt
  rw [loop_find (fun k => (insL (sx ps) (sy ps) k, insL (sd ps) (se m ps) k, (k : Int))) (ord ps) ps.length (.inl (insL (sx ps) (sy ps) ps.length, insL (sd ps) (se m ps) ps.length)) (fun _ => .inr false) (by omega) ?_ ?_ ?_ (s := ([], [], 0)) rfl]
  · by_cases h : firstNot (ord ps) ps.length < ps.length
    · rw [if_pos h]
      cases ha : (List.range ps.length).all (ord ps) with
      | true => exact absurd h (all_range.1 ha)
      | false => rfl
    · rw [if_neg h, all_range.2 h]
      unfold D_impl_size_Sint64
      simp (disch := omega) only [Option.bind_some, chk_in64, Bool.true_and, insL_len]
      by_cases h1 : 2 * (ps.length : Int) = m - 1
      · rw [bif_dt h1, decide_eq_true h1]
        by_cases h2 : ((ins2 (sx ps) (sy ps) ps.length).length : Int) = m - 1
        · rw [bif_dt h2, decide_eq_true h2]; rfl
        · rw [bif_df h2, decide_eq_false h2]; rfl
      · rw [bif_df h1, decide_eq_false h1]; rfl
  all_goals first | (intro k hk hp _) | intro _
  · obtain ⟨o0, o1, o2, o3⟩ := okS_of (hok _ (rw_mem hk))
    unfold ord at hp
    rw [Bool.and_eq_true, Bool.not_eq_true', decide_eq_false_iff_not, Bool.or_eq_true, decide_eq_true_eq, Bool.not_eq_true', decide_eq_false_iff_not] at hp
    obtain ⟨hp1, hp2⟩ := hp
    unfold sx sy at hp1
    unfold D_impl_isStarter_s0
    by_cases hk0 : k = 0
    · simp (disch := omega) only [bif_dt, bif_df, chk_inR, chk_in64, Int.toNat_natCast, Option.bind_some, bif_false]
      rfl
    · have hq := (okS_of (hok _ (rw_mem (by omega : k - 1 < ps.length)))).1
      have e : ((k : Int) - 1).toNat = k - 1 := by omega
      have hp3 := hp2.resolve_left hk0
      unfold sx at hp3
      simp (disch := omega) only [bif_dt, bif_df, chk_inR, chk_in64, Int.toNat_natCast, Option.bind_some, bif_false, e, decide_eq_false hp3]
      rfl
  · obtain ⟨o0, o1, o2, o3⟩ := okS_of (hok _ (rw_mem hk))
    unfold ord at hp
    unfold D_impl_isStarter_s0
    by_cases hp1 : sy ps k < sx ps k
    · unfold sx sy at hp1
      simp (disch := omega) only [bif_dt, chk_inR, chk_in64, Int.toNat_natCast, Option.bind_some, bif_true]
    · rw [decide_eq_false hp1] at hp
      by_cases hk0 : k = 0
      · rw [decide_eq_true hk0] at hp; exact absurd hp (by simp)
      · have hp3 : sx ps k < sx ps (k - 1) := by
          rw [decide_eq_false hk0] at hp
          simpa using hp
        have hq := (okS_of (hok _ (rw_mem (by omega : k - 1 < ps.length)))).1
        have e : ((k : Int) - 1).toNat = k - 1 := by omega
        unfold sx sy at hp1
        unfold sx at hp3
        simp (disch := omega) only [bif_dt, bif_df, chk_inR, chk_in64, Int.toNat_natCast, Option.bind_some, bif_true, e, decide_eq_true hp3]
  · unfold D_impl_isStarter_s0
    simp (disch := omega) only [bif_df]
def bo (m : Int) (a b : Nat → Int) : Nat → List Bool
  | 0 => List.replicate m.toNat false
  | k + 1 => ((bo m a b k).set (a k).toNat true).set (b k).toNat true
theorem bo_len (m : Int) (a b : Nat → Int) : ∀ k, (bo m a b k).length = m.toNat
  | 0 => by simp [bo]
  | k + 1 => by simp [bo, bo_len m a b k]
theorem bo_mem {m : Int} {a b : Nat → Int} : ∀ {k : Nat}, (∀ j, j < k → (0 ≤ a j ∧ a j < m) ∧ (0 ≤ b j ∧ b j < m)) → ∀ z, 0 ≤ z → z < m → rdb (bo m a b k) z.toNat = decide (z ∈ ins2 a b k)
  | 0, _, z, h0, h1 => by
    unfold bo rdb ins2
    simp [List.getD_eq_getElem?_getD, (by omega : z.toNat < m.toNat)]
  | k + 1, h, z, h0, h1 => by
    have ih := bo_mem (k := k) (fun j hj => h j (by omega)) z h0 h1
    obtain ⟨ha, hb⟩ := h k (by omega)
    have hl := bo_len m a b k
    show rdb (((bo m a b k).set (a k).toNat true).set (b k).toNat true) _ = decide (z ∈ addk (addk _ _) _)
    rw [rdb_set (by rw [List.length_set]; omega), rdb_set (by omega), ih]
    have e : (z ∈ addk (addk (ins2 a b k) (a k)) (b k)) ↔ ((z ∈ ins2 a b k ∨ z = a k) ∨ z = b k) := by rw [addk_mem, addk_mem]
    by_cases e1 : (b k).toNat = z.toNat
    · rw [if_pos e1, decide_eq_true (e.2 (.inr (by omega)))]
    · rw [if_neg e1]
      by_cases e2 : (a k).toNat = z.toNat
      · rw [if_pos e2, decide_eq_true (e.2 (.inl (.inr (by omega))))]
      · rw [if_neg e2]
        by_cases e3 : z ∈ ins2 a b k
        · rw [decide_eq_true e3, decide_eq_true (e.2 (.inl (.inl e3)))]
        · rw [decide_eq_false e3, decide_eq_false (fun h => (e.1 h).elim (fun h => h.elim e3 (fun h => e2 (by omega))) (fun h => e1 (by omega)))]
theorem tmod_lt {m z : Int} (hm : 0 < m) : -m < z.tmod m ∧ z.tmod m < m := ⟨by have := Int.lt_tmod_of_pos z hm; omega, Int.tmod_lt_of_pos z hm⟩
theorem l03Mod_D {fu : Nat} {m z : Int} (hm : 3 ≤ m ∧ m ≤ 13) : D_spec_l03Mod fu z m = some ((z.tmod m + m).tmod m) := by
  have := tmod_lt (z := z) (by omega : 0 < m)
  unfold D_spec_l03Mod
  rw [chk_ne (by omega), chk_in64 (by omega) (by omega), chk_ne (by omega)]
theorem mod_eq {m z : Int} (hm : 0 < m) (h0 : 0 ≤ z) (h1 : z < m) : (z.tmod m + m).tmod m = z := by
  rw [Int.tmod_eq_emod_of_nonneg h0, Int.emod_eq_of_lt h0 h1, Int.tmod_eq_emod_of_nonneg (by omega), Int.add_emod_right, Int.emod_eq_of_lt h0 h1]
def good (m : Int) (ps : List (List Int)) (j : Nat) : Bool := !decide (sy ps j < sx ps j) && ((decide (j = 0) || !decide (sx ps j ≤ sx ps (j - 1))) && (!decide (sx ps j ∈ ins2 (sx ps) (sy ps) j) && (!decide (sy ps j ∈ ins2 (sx ps) (sy ps) j) && !decide (sd ps j ∈ ins2 (sd ps) (se m ps) j))))
theorem l03Is_loop {fu : Nat} (hf : Big fu) {m : Int} (hn : 3 ≤ m ∧ m ≤ 13 ∧ m % 2 = 1) {ps : List (List Int)} (hl : ps.length ≤ 4294967296) (hok : ∀ p ∈ ps, okS m p = true) :
    loopF (D_spec_l03Is_s0 fu m ps) fu ((List.replicate m.toNat false), (List.replicate m.toNat false), 0) = some (if (List.range ps.length).all (good m ps) then .inl () else .inr false) := by
  unfold Big at hf
  rw [loop_all (fun k => (bo m (sx ps) (sy ps) k, bo m (sd ps) (se m ps) k, (k : Int))) (good m ps) ps.length (by omega) ?_ ?_ ?_ (s := (List.replicate m.toNat false, List.replicate m.toNat false, 0)) rfl]
  all_goals first | (intro k hk hp hj) | intro _
  · obtain ⟨o0, o1, o2, o3⟩ := okS_of (hok _ (rw_mem hk))
    have hr : ∀ j, j < ps.length → (1 ≤ sx ps j ∧ sx ps j ≤ m - 1) ∧ (1 ≤ sy ps j ∧ sy ps j ≤ m - 1) ∧ sx ps j ≠ sy ps j := fun j hj => (okS_of (hok _ (rw_mem hj))).2
    have hg : ∀ j, j ≤ k → sx ps j ≤ sy ps j := fun j hj' => by
      have : good m ps j = true := by rcases Nat.lt_or_ge j k with h | h; exact hj j h; rw [show j = k by omega]; exact hp
      unfold good at this
      simp only [Bool.and_eq_true, Bool.not_eq_true', decide_eq_false_iff_not] at this
      omega
    have b1 := bo_mem (m := m) (a := sx ps) (b := sy ps) (k := k) (fun j hj' => by have := hr j (by omega); omega)
    have b2 := bo_mem (m := m) (a := sd ps) (b := se m ps) (k := k) (fun j hj' => by have := hr j (by omega); have := hg j (by omega); unfold sd se; omega)
    have l1 := bo_len m (sx ps) (sy ps) k
    have hgk := hg k (by omega)
    unfold good at hp
    simp only [Bool.and_eq_true, Bool.or_eq_true, Bool.not_eq_true', decide_eq_true_eq, decide_eq_false_iff_not] at hp
    obtain ⟨hp1, hp2, hp3, hp4, hp5⟩ := hp
    have c1 := b1 (sx ps k) (by have := hr k hk; omega) (by have := hr k hk; omega)
    have c2 := b1 (sy ps k) (by have := hr k hk; omega) (by have := hr k hk; omega)
    have c3 := b2 (sd ps k) (by unfold sd; omega) (by have := hr k hk; unfold sd; omega)
    rw [decide_eq_false hp3] at c1
    rw [decide_eq_false hp4] at c2
    rw [decide_eq_false hp5] at c3
    have hmod := l03Mod_D (fu := fu) (m := m) (z := sd ps k) ⟨hn.1, hn.2.1⟩
    rw [mod_eq (by omega) (by unfold sd; omega) (by have := hr k hk; unfold sd; omega)] at hmod
    have hrk := hr k hk
    unfold D_spec_l03Is_s0
    have c1' : rdb (bo m (sx ps) (sy ps) k) (rd (rw_ ps k) 0).toNat = false := c1
    have c2' : rdb (bo m (sx ps) (sy ps) k) (rd (rw_ ps k) 1).toNat = false := c2
    have c3' : rdb (bo m (sd ps) (se m ps) k) (rd (rw_ ps k) 1 - rd (rw_ ps k) 0).toNat = false := c3
    have hmod' : D_spec_l03Mod fu (rd (rw_ ps k) 1 - rd (rw_ ps k) 0) m = some (rd (rw_ ps k) 1 - rd (rw_ ps k) 0) := hmod
    have hgk' : rd (rw_ ps k) 0 ≤ rd (rw_ ps k) 1 := hgk
    clear hmod c1 c2 c3 hgk b1 b2 hrk hg hr
    have e2 : m - (rd (rw_ ps k) 1 - rd (rw_ ps k) 0) = m - rd (rw_ ps k) 1 + rd (rw_ ps k) 0 := by omega
    by_cases hk0 : k = 0
    · simp (disch := omega) only [bif_dt, bif_df, chk_inR, chk_in64, Int.toNat_natCast, Option.bind_some, bif_false, hmod', c1', c2', c3', e2]
      rfl
    · have hq := (okS_of (hok _ (rw_mem (by omega : k - 1 < ps.length)))).1
      have e : ((k : Int) - 1).toNat = k - 1 := by omega
      have hp2' : ¬ rd (rw_ ps k) 0 ≤ rd (rw_ ps (k - 1)) 0 := hp2.resolve_left hk0
      simp (disch := omega) only [bif_dt, bif_df, chk_inR, chk_in64, Int.toNat_natCast, Option.bind_some, bif_false, hmod', c1', c2', c3', e, e2]
      rfl
  · obtain ⟨o0, o1, o2, o3⟩ := okS_of (hok _ (rw_mem hk))
    have hr : ∀ j, j < ps.length → (1 ≤ sx ps j ∧ sx ps j ≤ m - 1) ∧ (1 ≤ sy ps j ∧ sy ps j ≤ m - 1) ∧ sx ps j ≠ sy ps j := fun j hj => (okS_of (hok _ (rw_mem hj))).2
    have hg : ∀ j, j < k → sx ps j ≤ sy ps j := fun j hj' => by
      have : good m ps j = true := hj j hj'
      unfold good at this
      simp only [Bool.and_eq_true, Bool.not_eq_true', decide_eq_false_iff_not] at this
      omega
    have b1 := bo_mem (m := m) (a := sx ps) (b := sy ps) (k := k) (fun j hj' => by have := hr j (by omega); omega)
    have b2 := bo_mem (m := m) (a := sd ps) (b := se m ps) (k := k) (fun j hj' => by have := hr j (by omega); have := hg j hj'; unfold sd se; omega)
    have hmod := l03Mod_D (fu := fu) (m := m) (z := sd ps k) ⟨hn.1, hn.2.1⟩
    have hrk := hr k hk
    unfold D_spec_l03Is_s0
    by_cases hlt : sy ps k < sx ps k
    · have hlt' : rd (rw_ ps k) 1 < rd (rw_ ps k) 0 := hlt
      have hmod' : D_spec_l03Mod fu (rd (rw_ ps k) 1 - rd (rw_ ps k) 0) m = some (((rd (rw_ ps k) 1 - rd (rw_ ps k) 0).tmod m + m).tmod m) := hmod
      simp (disch := omega) only [bif_dt, chk_inR, chk_in64, Int.toNat_natCast, Option.bind_some, bif_true, hmod']
    · have c1 : rdb (bo m (sx ps) (sy ps) k) (rd (rw_ ps k) 0).toNat = decide (sx ps k ∈ ins2 (sx ps) (sy ps) k) := b1 (sx ps k) (by omega) (by omega)
      have c2 : rdb (bo m (sx ps) (sy ps) k) (rd (rw_ ps k) 1).toNat = decide (sy ps k ∈ ins2 (sx ps) (sy ps) k) := b1 (sy ps k) (by omega) (by omega)
      have c3 : rdb (bo m (sd ps) (se m ps) k) (rd (rw_ ps k) 1 - rd (rw_ ps k) 0).toNat = decide (sd ps k ∈ ins2 (sd ps) (se m ps) k) := b2 (sd ps k) (by unfold sd; omega) (by unfold sd; omega)
      rw [mod_eq (by omega) (by unfold sd; omega) (by unfold sd; omega)] at hmod
      have hmod' : D_spec_l03Mod fu (rd (rw_ ps k) 1 - rd (rw_ ps k) 0) m = some (rd (rw_ ps k) 1 - rd (rw_ ps k) 0) := hmod
      have hlt' : ¬ rd (rw_ ps k) 1 < rd (rw_ ps k) 0 := hlt
      unfold good at hp
      rw [decide_eq_false hlt] at hp
      generalize decide (sx ps k ∈ ins2 (sx ps) (sy ps) k) = d1 at hp c1
      generalize decide (sy ps k ∈ ins2 (sx ps) (sy ps) k) = d2 at hp c2
      generalize decide (sd ps k ∈ ins2 (sd ps) (se m ps) k) = d3 at hp c3
      by_cases hk0 : k = 0
      · rw [decide_eq_true hk0] at hp
        cases d1 <;> cases d2 <;> cases d3 <;> first
          | (simp at hp; done)
          | simp (disch := omega) only [bif_dt, bif_df, chk_inR, chk_in64, Int.toNat_natCast, Option.bind_some, bif_true, bif_false, hmod', c1, c2, c3]
      · have hq := (okS_of (hok _ (rw_mem (by omega : k - 1 < ps.length)))).1
        have e : ((k : Int) - 1).toNat = k - 1 := by omega
        by_cases hle : sx ps k ≤ sx ps (k - 1)
        · have hle' : rd (rw_ ps k) 0 ≤ rd (rw_ ps (k - 1)) 0 := hle
          simp (disch := omega) only [bif_dt, bif_df, chk_inR, chk_in64, Int.toNat_natCast, Option.bind_some, bif_true, bif_false, hmod', e]
        · have hle' : ¬ rd (rw_ ps k) 0 ≤ rd (rw_ ps (k - 1)) 0 := hle
          rw [decide_eq_false hk0, decide_eq_false hle] at hp
          cases d1 <;> cases d2 <;> cases d3 <;> first
            | (simp at hp; done)
            | simp (disch := omega) only [bif_dt, bif_df, chk_inR, chk_in64, Int.toNat_natCast, Option.bind_some, bif_true, bif_false, hmod', e, c1, c2, c3]
  · unfold D_spec_l03Is_s0
    simp (disch := omega) only [bif_df]
theorem prev_mem {ps : List (List Int)} {j : Nat} (h : j ≠ 0) : sx ps (j - 1) ∈ ins2 (sx ps) (sy ps) j := by
  obtain ⟨i, rfl⟩ : ∃ i, j = i + 1 := ⟨j - 1, by omega⟩
  show sx ps i ∈ addk (addk _ _) _
  rw [addk_mem, addk_mem]; exact .inl (.inr rfl)
theorem ins2_sym {m : Int} {ps : List (List Int)} : ∀ {k : Nat} {z : Int}, m - z ∈ ins2 (sd ps) (se m ps) k ↔ z ∈ ins2 (sd ps) (se m ps) k
  | 0, z => by simp [ins2]
  | k + 1, z => by
    show m - z ∈ addk (addk _ _) _ ↔ z ∈ addk (addk _ _) _
    rw [addk_mem, addk_mem, addk_mem, addk_mem, ins2_sym]
    have e1 : m - z = sd ps k ↔ z = se m ps k := by unfold sd se; omega
    have e2 : m - z = se m ps k ↔ z = sd ps k := by unfold sd se; omega
    rw [e1, e2, or_assoc, or_assoc, or_comm (a := z = se m ps k)]
theorem st_eq {m : Int} (hn : 3 ≤ m ∧ m ≤ 13 ∧ m % 2 = 1) {ps : List (List Int)} (hok : ∀ p ∈ ps, okS m p = true) :
    (decide ((ps.length : Int) = (m - 1).tdiv 2) && (List.range ps.length).all (good m ps)) = isSt m ps := by
  have hr : ∀ j, j < ps.length → (1 ≤ sx ps j ∧ sx ps j ≤ m - 1) ∧ (1 ≤ sy ps j ∧ sy ps j ≤ m - 1) ∧ sx ps j ≠ sy ps j := fun j hj => (okS_of (hok _ (rw_mem hj))).2
  have hd : (m - 1).tdiv 2 = (m - 1) / 2 := Int.tdiv_eq_ediv_of_nonneg (by omega)
  unfold isSt
  by_cases h : 2 * (ps.length : Int) = m - 1
  · rw [decide_eq_true h, decide_eq_true (by rw [hd]; omega), Bool.true_and, Bool.true_and, Bool.eq_iff_iff]
    simp only [Bool.and_eq_true, List.all_eq_true, List.mem_range, decide_eq_true_eq]
    have k1 := (ins2_len (sx ps) (sy ps) ps.length).2
    have k2 := (ins2_len (sd ps) (se m ps) ps.length).2
    constructor
    · intro hg
      have hg' : ∀ j, j < ps.length → ¬ sy ps j < sx ps j ∧ (j = 0 ∨ ¬ sx ps j ≤ sx ps (j - 1)) ∧ sx ps j ∉ ins2 (sx ps) (sy ps) j ∧ sy ps j ∉ ins2 (sx ps) (sy ps) j ∧ sd ps j ∉ ins2 (sd ps) (se m ps) j := fun j hj => by
        have := hg j hj
        unfold good at this
        simpa only [Bool.and_eq_true, Bool.or_eq_true, Bool.not_eq_true', decide_eq_true_eq, decide_eq_false_iff_not] using this
      refine ⟨fun j hj => ?_, ?_, ?_⟩
      · have := hg' j hj
        unfold ord
        simp only [Bool.and_eq_true, Bool.or_eq_true, Bool.not_eq_true', decide_eq_true_eq, decide_eq_false_iff_not]
        omega
      · have := k1.2 fun j hj => ⟨(hg' j hj).2.2.1, (hg' j hj).2.2.2.1, (hr j hj).2.2⟩
        omega
      · have := k2.2 fun j hj => ⟨(hg' j hj).2.2.2.2, fun h' => (hg' j hj).2.2.2.2 (by rw [← ins2_sym]; rw [show m - sd ps j = se m ps j by unfold sd se; omega]; exact h'), by unfold sd se; omega⟩
        omega
    · rintro ⟨h1, h2, h3⟩ j hj
      have a1 := k1.1 (by omega) j hj
      have a2 := k2.1 (by omega) j hj
      have h1' := h1 j hj
      unfold ord at h1'
      unfold good
      simp only [Bool.and_eq_true, Bool.or_eq_true, Bool.not_eq_true', decide_eq_true_eq, decide_eq_false_iff_not] at h1' ⊢
      refine ⟨h1'.1, ?_, a1.1, a1.2.1, a2.1⟩
      by_cases h0 : j = 0
      · exact .inl h0
      · refine .inr fun hle => ?_
        have := h1'.2.resolve_left h0
        exact a1.1 ((show sx ps j = sx ps (j - 1) by omega) ▸ prev_mem h0)
  · rw [decide_eq_false h, decide_eq_false (by rw [hd]; omega)]; simp
end Go.Proofs.YtdafmafigcljkaaGreat
namespace Go.Proofs.YtdafmafigcljkaaGreat
open Go Am
set_option linter.unusedVariables false
set_option linter.unusedSimpArgs false
theorem l03Is_D {fu : Nat} (hf : Big fu) {m : Int} (hn : 3 ≤ m ∧ m ≤ 13 ∧ m % 2 = 1) {ps : List (List Int)} (hl : ps.length ≤ 4294967296) (hok : ∀ p ∈ ps, okS m p = true) : D_spec_l03Is fu m ps = some (isSt m ps) := by
  have hd : (m - 1).tdiv 2 = (m - 1) / 2 := Int.tdiv_eq_ediv_of_nonneg (by omega)
  rw [← st_eq hn hok]
  unfold D_spec_l03Is
  rw [chk_in64 (by omega) (by omega), chk_and (by decide) ⟨by omega, by omega⟩]
  by_cases h : (ps.length : Int) = (m - 1).tdiv 2
  · rw [bif_nt h, decide_eq_true h, chk_and (by omega) (by omega), chk_and (by omega) (by omega), l03Is_loop hf hn hl hok, Bool.true_and]
    cases (List.range ps.length).all (good m ps) <;> rfl
  · rw [bif_nf h, decide_eq_false h]; rfl
def stCode (m : Int) (ps : List (List Int)) : Int := if isMod m && ps.all (okS m) then if isSt m ps then 0 else 1 else 2
theorem starterCode_D {fu : Nat} (hf : Big fu) (m : Int) {ps : List (List Int)} (hl : ps.length ≤ 4294967296) : D_impl_starterCode fu m (fun _ => D_impl_always fu) [ps] = some (stCode m ps) := by
  have hf' := hf
  unfold Big at hf
  unfold D_impl_starterCode stCode
  rw [isModulus_D, Option.bind_some]
  cases hm : isMod m with
  | false => rfl
  | true =>
    have hn := isMod_of hm
    have hlen : [ps].length = 1 := rfl
    have hrw : rw3 [ps] 0 = ps := rfl
    rw [Bool.not_true, bif_false, Bool.true_and]
    rw [loop_find (fun k => (k : Int)) (fun _ => ps.all (okS m)) 1 (.inl ()) (fun _ => .inr 2) (by omega) ?_ ?_ ?_ (s := 0) rfl]
    · cases hok : ps.all (okS m) with
      | false => rfl
      | true =>
        rw [List.all_eq_true] at hok
        rw [if_neg (by rw [firstNot_all.2 (fun k hk => rfl)]; omega)]
        unfold D_impl_always
        simp only [Option.bind_some, Bool.not_true, bif_false, if_true]
        rw [loop_find (fun k => (k : Int)) (fun _ => isSt m ps) 1 (.inl ()) (fun _ => .inr 1) (by omega) ?_ ?_ ?_ (s := 0) rfl]
        · cases isSt m ps <;> rfl
        all_goals first | (intro k hk hp _) | intro _
        all_goals unfold D_impl_starterCode_s1
        · obtain rfl : k = 0 := by omega
          have := isStarter_D hf' (m := m) ⟨hn.1, hn.2.1⟩ hl hok
          simp (disch := omega) only [bif_dt, chk_inR, chk_in64, hlen, Int.toNat_natCast, hrw, this, hp, Option.bind_some, Bool.not_true, bif_false]; rfl
        · obtain rfl : k = 0 := by omega
          have := isStarter_D hf' (m := m) ⟨hn.1, hn.2.1⟩ hl hok
          simp (disch := omega) only [bif_dt, chk_inR, chk_in64, hlen, Int.toNat_natCast, hrw, this, hp, Option.bind_some, Bool.not_false, bif_true]
        · simp (disch := omega) only [bif_df, hlen]
    all_goals first | (intro k hk hp _) | intro _
    all_goals unfold D_impl_starterCode_s0
    · obtain rfl : k = 0 := by omega
      have := arePairs_D hf' (m := m) ⟨hn.1, hn.2.1⟩ hl
      simp (disch := omega) only [bif_dt, chk_inR, chk_in64, hlen, Int.toNat_natCast, hrw, this, hp, Option.bind_some, Bool.not_true, bif_false]; rfl
    · obtain rfl : k = 0 := by omega
      have := arePairs_D hf' (m := m) ⟨hn.1, hn.2.1⟩ hl
      simp (disch := omega) only [bif_dt, chk_inR, chk_in64, hlen, Int.toNat_natCast, hrw, this, hp, Option.bind_some, Bool.not_false, bif_true]
    · simp (disch := omega) only [bif_df, hlen]
theorem l03Code_D {fu : Nat} (hf : Big fu) (m : Int) {ps : List (List Int)} (hl : ps.length ≤ 4294967296) : D_spec_l03Code fu m ps = some (stCode m ps) := by
  unfold D_spec_l03Code stCode
  rw [l03Modulus_D, Option.bind_some]
  cases hm : isMod m with
  | false => rfl
  | true =>
    have hn := isMod_of hm
    rw [Bool.not_true, bif_false, l03Lists_D hf ⟨hn.1, hn.2.1⟩ hl, Option.bind_some]
    cases hok : ps.all (okS m) with
    | false => rfl
    | true =>
      rw [List.all_eq_true] at hok
      rw [Bool.not_true, Option.bind_some, bif_false, l03Is_D hf hn hl hok]
      cases isSt m ps <;> rfl
def sum1 (m : Int) (p : List Int) : Int := (rd p 0 + rd p 1).tmod m
theorem map_take_rw' {f : List Int → Int} {rs : List (List Int)} {k : Nat} (h : k < rs.length) : (rs.take k).map f ++ [f (rw_ rs k)] = (rs.take (k + 1)).map f := by rw [take_rw h, List.map_append]; rfl
theorem stCode_zero {m : Int} {ps : List (List Int)} (h : stCode m ps = 0) : (3 ≤ m ∧ m ≤ 13 ∧ m % 2 = 1) ∧ (∀ p ∈ ps, okS m p = true) ∧ 2 * (ps.length : Int) = m - 1 := by
  unfold stCode at h
  split at h
  · rename_i h1
    rw [Bool.and_eq_true] at h1
    split at h
    · rename_i h2
      unfold isSt at h2
      simp only [Bool.and_eq_true, decide_eq_true_eq] at h2
      exact ⟨isMod_of h1.1, List.all_eq_true.1 h1.2, h2.2.1⟩
    · cases h
  · cases h
theorem sums_loop {fu : Nat} (hf : Big fu) {m : Int} {ps : List (List Int)} (h : stCode m ps = 0) : loopF (D_spec_l03Sums_s0 fu m ps) fu ([], 0) = some (ps.map (sum1 m)) := by
  obtain ⟨hn, hok, hl⟩ := stCode_zero h
  unfold Big at hf
  rw [loop_seq (fun k => ((ps.take k).map (sum1 m), (k : Int))) ps.length (ps.map (sum1 m)) (by omega) ?_ ?_ (s := ([], 0)) (by simp)]
  · intro k hk
    obtain ⟨o0, o1, o2, o3⟩ := okS_of (hok _ (rw_mem hk))
    have hm : ((ps.take k).map (sum1 m)).length = k := by simp; omega
    unfold D_spec_l03Sums_s0
    simp (disch := omega) only [chk_inR, chk_in64, chk_ne, chk_le, bif_dt, Int.toNat_natCast]
    rw [← map_take_rw' hk]; rfl
  · unfold D_spec_l03Sums_s0
    simp (disch := omega) only [bif_df]
    rw [List.take_length]
end Go.Proofs.YtdafmafigcljkaaGreat
namespace Go.Proofs.YtdafmafigcljkaaGreat
open Go Am
set_option linter.unusedVariables false
set_option linter.unusedSimpArgs false
theorem mod2 {m x : Int} (hm : 0 < m) (h0 : 0 ≤ x) (h1 : x < 2 * m) : x.tmod m = if x < m then x else x - m := by
  rw [Int.tmod_eq_emod_of_nonneg h0]
  by_cases h : x < m
  · rw [if_pos h, Int.emod_eq_of_lt h0 h]
  · rw [if_neg h]
    have : x = (x - m) + m := by omega
    rw [this, Int.add_emod_right, Int.emod_eq_of_lt (by omega) (by omega)]; omega
end Go.Proofs.YtdafmafigcljkaaGreat
namespace Go.Proofs.YtdafmafigcljkaaGreat
open Go Am
set_option linter.unusedVariables false
set_option linter.unusedSimpArgs false
def srt (xs : List Int) : List Int := xs.mergeSort fun x y => decide (x ≤ y)
theorem srt_perm (xs : List Int) : (srt xs).Perm xs := List.mergeSort_perm xs _
theorem srt_len (xs : List Int) : (srt xs).length = xs.length := (srt_perm xs).length_eq
theorem srt_mem {xs : List Int} {x : Int} : x ∈ srt xs ↔ x ∈ xs := (srt_perm xs).mem_iff
theorem srt_pw (xs : List Int) : (srt xs).Pairwise (· ≤ ·) := by
  have := List.pairwise_mergeSort (le := fun x y : Int => decide (x ≤ y)) (fun a b c h1 h2 => by simp only [decide_eq_true_eq] at *; omega) (fun a b => by simp only [Bool.or_eq_true, decide_eq_true_eq]; omega) xs
  exact this.imp (fun h => by simpa using h)
theorem srt_le {xs : List Int} {i j : Nat} (hij : i < j) (hj : j < xs.length) : rd (srt xs) i ≤ rd (srt xs) j := by
  have hl := srt_len xs
  have := List.pairwise_iff_getElem.1 (srt_pw xs) i j (by omega) (by omega) hij
  simpa [rd, List.getD_eq_getElem?_getD, List.getElem?_eq_getElem (by omega : i < (srt xs).length), List.getElem?_eq_getElem (by omega : j < (srt xs).length)] using this
theorem rd_get {l : List Int} {k : Nat} (h : k < l.length) : l[k] = rd l k := by simp [rd, List.getD_eq_getElem?_getD, List.getElem?_eq_getElem h]
theorem nodup_rd {l : List Int} : l.Nodup ↔ ∀ i j, i < j → j < l.length → rd l i ≠ rd l j := by
  unfold List.Nodup
  rw [List.pairwise_iff_getElem]
  constructor
  · intro h i j hij hj
    have := h i j (by omega) hj hij
    rwa [rd_get, rd_get] at this
  · intro h i j hi hj hij
    rw [rd_get, rd_get]; exact h i j hij hj
theorem srt_adj (xs : List Int) : (∀ j, 0 < j → j < xs.length → rd (srt xs) j ≠ rd (srt xs) (j - 1)) ↔ (srt xs).Nodup := by
  rw [nodup_rd, srt_len]
  constructor
  · intro h i j hij hj e
    have h1 := h (i + 1) (by omega) (by omega)
    rw [Nat.add_sub_cancel] at h1
    have h2 := srt_le (xs := xs) (Nat.lt_succ_self i) (by omega : i + 1 < xs.length)
    by_cases e2 : i + 1 = j
    · subst e2; exact h1 e.symm
    · have h3 := srt_le (xs := xs) (by omega : i + 1 < j) hj
      have h2' : rd (srt xs) i ≤ rd (srt xs) (i + 1) := h2
      omega
  · intro h j h0 hj e
    exact h (j - 1) j (by omega) hj e.symm
theorem compact_all (s : List Int) : (Lib.compact s).length = s.length ↔ ∀ j, 0 < j → j < s.length → rd s j ≠ rd s (j - 1) := by
  unfold Lib.compact Lib.compactUpTo
  rw [List.length_map]
  have hrl : (List.range s.length).length = s.length := List.length_range
  have hget : ∀ j, j < s.length → s.toArray[j]! = rd s j := fun j hj => by simp [hj, rd, List.getD_eq_getElem?_getD]
  have : ((List.range s.length).filter (Lib.keeps s.toArray)).length = s.length ↔ ∀ j ∈ List.range s.length, Lib.keeps s.toArray j = true := by
    rw [← List.filter_eq_self (p := Lib.keeps s.toArray)]
    constructor
    · intro h
      exact List.filter_sublist.eq_of_length (by rw [h, hrl])
    · intro h; rw [h, hrl]
  rw [this]
  constructor
  · intro h j h0 hj
    have := h j (List.mem_range.2 hj)
    unfold Lib.keeps at this
    rw [decide_eq_true_eq, hget j hj, hget (j - 1) (by omega)] at this
    rcases this with e | e
    · omega
    · exact e
  · intro h j hj
    have hj' := List.mem_range.1 hj
    unfold Lib.keeps
    rw [decide_eq_true_eq]
    by_cases h0 : j = 0
    · exact .inl h0
    · right
      rw [hget j hj', hget (j - 1) (by omega)]
      exact h j (by omega) hj'
theorem compact_srt (xs : List Int) : (Lib.compact (srt xs)).length = (srt xs).length ↔ xs.Nodup := by
  rw [compact_all, srt_len, srt_adj]
  exact (srt_perm xs).nodup_iff
theorem Index_D {fu : Nat} (hf : Big fu) {xs : List Int} (hl : xs.length ≤ 4294967296) (a : Int) : ∃ x, D_slices_Index_Sint64_int64 fu xs a = some x ∧ decide (0 ≤ x) = decide (a ∈ xs) := by
  unfold Big at hf
  unfold D_slices_Index_Sint64_int64
  rw [loop_find (fun k => (k : Int)) (fun k => !decide (a = rd xs k)) xs.length (.inl ()) (fun k => .inr (k : Int)) (by omega) ?_ ?_ ?_ (s := 0) rfl]
  · have hle := firstNot_le (fun k => !decide (a = rd xs k)) xs.length
    have hsp := firstNot_spec (fun k => !decide (a = rd xs k)) xs.length
    generalize hm : firstNot (fun k => !decide (a = rd xs k)) xs.length = m at hle hsp
    by_cases h : m < xs.length
    · refine ⟨(m : Int), by rw [if_pos h]; rfl, ?_⟩
      have h1 : a = rd xs m := by simpa using hsp.2 h
      rw [decide_eq_true (by omega), decide_eq_true (by rw [h1]; exact rd_mem h)]
    · refine ⟨-1, by rw [if_neg h]; rfl, ?_⟩
      have : ¬ a ∈ xs := fun ha => by
        obtain ⟨k, hk, e⟩ := rd_of ha
        have := hsp.1 k (by omega)
        simp [e] at this
      rw [decide_eq_false this]; rfl
  all_goals first | (intro k hk hp _) | intro _
  · have hp' : ¬ a = rd xs k := by simpa using hp
    unfold D_slices_Index_Sint64_int64_s0
    simp (disch := omega) only [bif_dt, chk_inR, chk_in64, Int.toNat_natCast]
    rw [bif_df hp']; rfl
  · have hp' : a = rd xs k := by simpa using hp
    unfold D_slices_Index_Sint64_int64_s0
    simp (disch := omega) only [bif_dt, chk_inR, chk_in64, Int.toNat_natCast]
  · unfold D_slices_Index_Sint64_int64_s0
    simp (disch := omega) only [bif_df]
theorem Contains_D {fu : Nat} (hf : Big fu) {xs : List Int} (hl : xs.length ≤ 4294967296) (a : Int) : D_slices_Contains_Sint64_int64 fu xs a = some (decide (a ∈ xs)) := by
  obtain ⟨x, h1, h2⟩ := Index_D hf hl a
  unfold D_slices_Contains_Sint64_int64
  rw [h1, Option.bind_some, h2]
theorem Sorted_D {fu : Nat} {xs : List Int} (hl : xs.length ≤ 4294967296) : D_slices_Sorted_int64 fu xs = some (srt xs) := by
  unfold D_slices_Sorted_int64
  rw [chk_le hl]; first | rfl | (rw [isort_eq]; rfl)
def difN (xs : List Int) : Bool := decide ((0 : Int) ∉ xs) && decide xs.Nodup
theorem areDifferent_D {fu : Nat} (hf : Big fu) {xs : List Int} (hl : xs.length ≤ 4294967296) : D_impl_areDifferent fu xs = some (difN xs) := by
  have hsl := srt_len xs
  unfold D_impl_areDifferent D_slices_Values_Sint64_int64 D_slices_Clone_Sint64_int64 D_slices_Compact_Sint64_int64 difN
  rw [Option.bind_some, Sorted_D hl, Option.bind_some, Contains_D hf (by omega)]
  simp only [Option.bind_some, srt_mem]
  by_cases h0 : (0 : Int) ∈ xs
  · rw [decide_eq_true h0, decide_eq_false (fun h => h h0)]; rfl
  · rw [decide_eq_false h0, decide_eq_true h0, Bool.not_false, bif_true, chk_le (by omega), Option.bind_some, chk_le (by omega), Option.bind_some, Option.bind_some, Bool.true_and]
    congr 1
    have := compact_srt xs
    dsimp only
    by_cases hn : xs.Nodup
    · rw [decide_eq_true hn, decide_eq_true (by have := this.2 hn; omega)]
    · rw [decide_eq_false hn, decide_eq_false (fun h => hn (this.1 (by omega)))]
def mk1 (met : List Bool) (x : Int) : Option (List Bool) := if rdb met x.toNat then none else some (met.set x.toNat true)
theorem mk_fold {n : Nat} : ∀ (xs : List Int) (met : List Bool), met.length = n → (∀ x ∈ xs, 0 ≤ x ∧ x < n) → ((xs.foldlM mk1 met).isSome = true ↔ xs.Nodup ∧ ∀ x ∈ xs, rdb met x.toNat = false)
  | [], met, _, _ => by simp
  | x :: xs, met, hl, hx => by
    have h0 := hx x (List.mem_cons_self ..)
    have hxs : ∀ y ∈ xs, 0 ≤ y ∧ y < n := fun y hy => hx y (List.mem_cons_of_mem _ hy)
    rw [List.foldlM_cons]
    unfold mk1
    by_cases h : rdb met x.toNat = true
    · rw [if_pos h]
      constructor
      · intro h1; cases h1
      · intro h1; have := h1.2 x (List.mem_cons_self ..); rw [h] at this; cases this
    · rw [if_neg h]
      show ((xs.foldlM mk1 (met.set x.toNat true)).isSome = true ↔ _)
      rw [mk_fold xs _ (by rw [List.length_set]; exact hl) hxs, List.nodup_cons]
      constructor
      · rintro ⟨h1, h2⟩
        refine ⟨⟨fun hm => ?_, h1⟩, fun y hy => ?_⟩
        · have := h2 x hm
          rw [rdb_set (by omega), if_pos rfl] at this; cases this
        · rcases List.mem_cons.1 hy with rfl | hy
          · simpa using h
          · have := h2 y hy
            have hy0 := hxs y hy
            rw [rdb_set (by omega)] at this
            split at this
            · cases this
            · exact this
      · rintro ⟨⟨h1, h2⟩, h3⟩
        refine ⟨h2, fun y hy => ?_⟩
        have hy0 := hxs y hy
        rw [rdb_set (by omega)]
        by_cases e : x.toNat = y.toNat
        · have : x = y := by omega
          subst this; exact absurd hy h1
        · rw [if_neg e]; exact h3 y (List.mem_cons_of_mem _ hy)
theorem met0 {m : Nat} (hm : 0 < m) (k : Nat) : rdb ((List.replicate m false).set 0 true) k = decide (k = 0) := by
  rw [rdb_set (by rw [List.length_replicate]; exact hm)]
  by_cases h : k = 0
  · subst h; simp
  · rw [if_neg (fun e => h e.symm), decide_eq_false h]
    unfold rdb
    rw [List.getD_eq_getElem?_getD, List.getElem?_replicate]
    split <;> rfl
theorem mk_dif {m : Nat} (hm : 0 < m) {xs : List Int} (hx : ∀ x ∈ xs, 0 ≤ x ∧ x < m) : (xs.foldlM mk1 ((List.replicate m false).set 0 true)).isSome = difN xs := by
  rw [Bool.eq_iff_iff, mk_fold (n := m) xs _ (by simp) hx]
  unfold difN
  rw [Bool.and_eq_true, decide_eq_true_eq, decide_eq_true_eq]
  constructor
  · rintro ⟨h1, h2⟩
    refine ⟨fun h => ?_, h1⟩
    have := h2 0 h
    rw [met0 hm] at this; cases this
  · rintro ⟨h1, h2⟩
    refine ⟨h2, fun x hxx => ?_⟩
    rw [met0 hm, decide_eq_false]
    intro e
    have := hx x hxx
    have : x = 0 := by omega
    subst this; exact h1 hxx
end Go.Proofs.YtdafmafigcljkaaGreat
