/-
  SquareOfSchedules: what program and reference compute, and the law. Plain Lean, no program, no condition.
-/
import Derived.Test.YtakfkiahhfdjfaaDI
import Derived.Test.YtakfkiahhfdjfaaDJ
import Derived.Test.YtakfkiahhfdjfaaPuV
namespace Go.Proofs.Ytakfkiahhfdjfaa
open Go Am
set_option linter.unusedVariables false
set_option linter.unusedSimpArgs false

theorem wr_eq {x : Int} (h0 : -9223372036854775808 ≤ x) (h1 : x ≤ 9223372036854775807) : IntKind.i64.wrap x = x := in64_wr ⟨h0, h1⟩
theorem optF_snoc {σ : Type} (g : Nat → σ → Option σ) : ∀ (m k : Nat) (s : σ), optF g (m + 1) k s = (optF g m k s).bind (g (k + m))
  | 0, k, s => by rw [optF_succ]; show (g k s).bind some = _; rw [Option.bind_fun_some]; rfl
  | m + 1, k, s => by
    rw [optF_succ, optF_succ]
    cases g k s with
    | none => rfl
    | some s' =>
      show optF g (m + 1) (k + 1) s' = (optF g m (k + 1) s').bind _
      rw [optF_snoc g m (k + 1) s', show k + 1 + m = k + (m + 1) by omega]
theorem optF_inv {σ : Type} {g : Nat → σ → Option σ} {P : σ → Prop} (h : ∀ k s s', P s → g k s = some s' → P s') : ∀ (m k : Nat) (s t : σ), P s → optF g m k s = some t → P t
  | 0, k, s, t, hs, e => by obtain rfl := Option.some.inj e; exact hs
  | m + 1, k, s, t, hs, e => by
    rw [optF_succ] at e
    obtain ⟨u, h1, h2⟩ := Option.bind_eq_some_iff.1 e
    exact optF_inv h m (k + 1) u t (h _ _ _ hs h1) h2
theorem foldM_inv {σ : Type} {g : σ → List Int → Option σ} {P : σ → Prop} (h : ∀ s x s', P s → g s x = some s' → P s') : ∀ (l : List (List Int)) (s t : σ), P s → l.foldlM g s = some t → P t
  | [], s, t, hs, e => by obtain rfl := Option.some.inj e; exact hs
  | x :: l, s, t, hs, e => by
    rw [List.foldlM_cons] at e
    obtain ⟨u, h1, h2⟩ := Option.bind_eq_some_iff.1 e
    exact foldM_inv h l u t (h _ _ _ hs h1) h2
abbrev Tt := List (List Int)
def SqS (m : Nat) (X : Tt) : Prop := X.length = m ∧ ∀ k, k < m → (rw_ X k).length = m
theorem SqS.set {m : Nat} {X : Tt} {i j : Nat} {x : Int} (h : SqS m X) (hi : i < m) : SqS m (X.set i ((rw_ X i).set j x)) := by
  refine ⟨by rw [List.length_set]; exact h.1, fun k hk => ?_⟩
  rw [rw_set' (by rw [h.1]; exact hi)]
  by_cases e : i = k
  · subst e; rw [if_pos rfl, List.length_set]; exact h.2 _ hk
  · rw [if_neg e]; exact h.2 k hk
/-- one pair of teams at a cell -/
def hh (t : List Int) (i j : Nat) (X : Tt) (p : List Int) : Option Tt :=
  if rd t (rd p 0).toNat = rd p 1 then if 0 ≤ rd (rw_ X i) j then none else some (X.set i ((rw_ X i).set j (14 * rd p 0 + rd p 1))) else some X
def cellG (rs ts : Tt) (m i j : Nat) (X : Tt) : Option Tt := (prs (rw_ rs i) m).foldlM (hh (rw_ ts j) i j) X
def rowGs (rs ts : Tt) (m i : Nat) (X : Tt) : Option Tt := optF (fun j X => cellG rs ts m i j X) m 0 X
def allG (rs ts : Tt) (m : Nat) (X : Tt) : Option Tt := optF (fun i X => rowGs rs ts m i X) m 0 X
theorem hh_inv {m : Nat} {t : List Int} {i j : Nat} (hi : i < m) {X Y : Tt} {p : List Int} (h : SqS m X) (e : hh t i j X p = some Y) : SqS m Y := by
  unfold hh at e
  split at e
  · split at e
    · cases e
    · obtain rfl := Option.some.inj e; exact h.set hi
  · obtain rfl := Option.some.inj e; exact h
theorem cellG_inv {rs ts : Tt} {m i j : Nat} (hi : i < m) {X Y : Tt} (h : SqS m X) (e : cellG rs ts m i j X = some Y) : SqS m Y :=
  foldM_inv (P := SqS m) (fun s x s' hs he => hh_inv hi hs he) _ _ _ h e
theorem rowGs_inv {rs ts : Tt} {m i : Nat} (hi : i < m) {X Y : Tt} (h : SqS m X) (e : rowGs rs ts m i X = some Y) : SqS m Y :=
  optF_inv (P := SqS m) (fun k s s' hs he => cellG_inv hi hs he) _ _ _ _ h e
theorem allG_inv {rs ts : Tt} {m : Nat} {X Y : Tt} (h : SqS m X) (e : allG rs ts m X = some Y) : SqS m Y := by
  have : ∀ (k c : Nat) (s t : Tt), c + k ≤ m → SqS m s → optF (fun i X => rowGs rs ts m i X) k c s = some t → SqS m t := by
    intro k
    induction k with
    | zero => intro c s t _ hs e; obtain rfl := Option.some.inj e; exact hs
    | succ k ih =>
      intro c s t hc hs e
      rw [optF_succ] at e
      obtain ⟨u, h1, h2⟩ := Option.bind_eq_some_iff.1 e
      exact ih (c + 1) u t (by omega) (rowGs_inv (by omega) hs h1) h2
  exact this m 0 X Y (by omega) h e
theorem prs_fold (r : List Int) (h : Tt → List Int → Option Tt) (X : Tt) : ∀ k, optF (fun (a : Nat) X => if (a : Int) < rd r a then h X [(a : Int), rd r a] else some X) k 0 X = (prs r k).foldlM h X
  | 0 => rfl
  | k + 1 => by
    rw [optF_snoc, prs_fold r h X k, prs_succ, Nat.zero_add]
    by_cases e : (k : Int) < rd r k
    · simp only [if_pos e]
      rw [List.foldlM_append]
      show Option.bind _ _ = Option.bind _ _
      congr 1; funext s
      show _ = (h s _).bind some
      rw [Option.bind_fun_some]
    · simp only [if_neg e]
      exact Option.bind_fun_some _

/-! the empty square -/
def emp (m i j : Nat) : Tt := (List.range m).map fun a => if a < i then List.replicate m (-1) else if a = i then part (fun _ => -1) m j else List.replicate m 0
theorem emp_len (m i j : Nat) : (emp m i j).length = m := by simp [emp]
theorem part_m1 (m : Nat) : part (fun _ => -1) m m = List.replicate m (-1) := by
  rw [part_full]; apply List.ext_getElem?; intro j; by_cases h : j < m <;> simp [h, List.getElem?_replicate]
theorem emp_zero (m : Nat) : emp m 0 0 = List.replicate m (List.replicate m 0) := by
  unfold emp
  apply rows_ext
  · simp
  · intro a ha
    rw [List.length_map, List.length_range] at ha
    rw [rw_map ha, if_neg (by omega)]
    have : rw_ (List.replicate m (List.replicate m (0 : Int))) a = List.replicate m 0 := by simp [rw_, List.getD_eq_getElem?_getD, List.getElem?_replicate, ha]
    rw [this, part_zero]; split <;> rfl
theorem emp_full (m : Nat) : emp m m 0 = List.replicate m (List.replicate m (-1)) := by
  unfold emp
  apply rows_ext
  · simp
  · intro a ha
    rw [List.length_map, List.length_range] at ha
    rw [rw_map ha, if_pos ha]
    simp [rw_, List.getD_eq_getElem?_getD, List.getElem?_replicate, ha]
theorem emp_next (m i : Nat) : emp m i m = emp m (i + 1) 0 := by
  unfold emp
  apply List.map_congr_left
  intro a ha
  rw [part_m1, part_zero]
  by_cases h1 : a < i
  · rw [if_pos h1, if_pos (by omega)]
  · rw [if_neg h1]
    by_cases h2 : a = i
    · rw [if_pos h2, if_pos (by omega)]
    · rw [if_neg h2, if_neg (by omega)]; split <;> rfl
theorem emp_rw {m i : Nat} (j : Nat) (hi : i < m) : rw_ (emp m i j) i = part (fun _ => -1) m j := by
  unfold emp; rw [rw_map hi, if_neg (by omega), if_pos rfl]
theorem emp_set {m i j : Nat} (hi : i < m) (hj : j < m) : (emp m i j).set i ((rw_ (emp m i j) i).set j (-1)) = emp m i (j + 1) := by
  apply rows_ext
  · rw [List.length_set, emp_len, emp_len]
  · intro a ha
    rw [List.length_set, emp_len] at ha
    rw [rw_set' (by rw [emp_len]; exact hi)]
    by_cases e : i = a
    · subst e
      rw [if_pos rfl, emp_rw _ hi, emp_rw _ hi]
      exact part_set (f := fun _ => -1) hj
    · rw [if_neg e]
      unfold emp
      rw [rw_map ha, rw_map ha]
      simp only [if_neg (fun h : a = i => e h.symm)]
theorem l04Empty_D {fu : Nat} (hf : Big fu) {m : Int} (hm : 0 ≤ m ∧ m ≤ 14) : D_spec_l04Empty fu m = some (List.replicate m.toNat (List.replicate m.toNat (-1))) := by
  unfold Big at hf
  unfold D_spec_l04Empty
  rw [loop_seq (fun k => (List.replicate k (List.replicate m.toNat (-1)), (k : Int))) m.toNat (List.replicate m.toNat (List.replicate m.toNat (-1))) (by omega) ?_ ?_ (s := ([], 0)) rfl]
  · rfl
  · intro k hk
    unfold D_spec_l04Empty_s0
    dsimp only
    rw [bif_dt (by omega)]
    rw [loop_seq (fun k => (List.replicate k (-1), (k : Int))) m.toNat (List.replicate m.toNat (-1)) (by omega) ?_ ?_ (s := ([], 0)) rfl]
    · have : (List.replicate k (List.replicate m.toNat (-1 : Int))).length = k := List.length_replicate
      simp (disch := omega) only [Option.bind_some, chk_le, chk_in64]
      rw [← List.replicate_succ']; rfl
    · intro j hj
      unfold D_spec_l04Empty_s1
      have : (List.replicate j (-1 : Int)).length = j := List.length_replicate
      simp (disch := omega) only [bif_dt, chk_le, chk_in64]
      rw [← List.replicate_succ']; rfl
    · unfold D_spec_l04Empty_s1
      simp (disch := omega) only [bif_df]
  · unfold D_spec_l04Empty_s0
    simp (disch := omega) only [bif_df]
theorem emptySquare_D {fu : Nat} (hf : Big fu) {m : Int} (hm : 0 ≤ m ∧ m ≤ 14) : D_impl_emptySquare fu m = some (m, List.replicate m.toNat (List.replicate m.toNat (-1))) := by
  have hf' := hf
  unfold Big at hf
  unfold D_impl_emptySquare
  rw [square_D hf' hm, Option.bind_some]
  have hrep : (List.replicate m.toNat (List.replicate m.toNat (0 : Int))).length = m.toNat := List.length_replicate
  rw [loop_seq (fun k => (emp m.toNat k 0, (k : Int))) m.toNat (List.replicate m.toNat (List.replicate m.toNat (-1))) (by omega) ?_ ?_ (s := (List.replicate m.toNat (List.replicate m.toNat 0), 0)) (by rw [emp_zero]; rfl)]
  · rfl
  · intro i hi
    have hw : (rw_ (emp m.toNat i 0) i).length = m.toNat := by rw [emp_rw _ hi, part_len]
    unfold D_impl_emptySquare_s0
    dsimp only
    rw [bif_dt (by omega), chk_inR (by omega) (by omega)]
    rw [loop_seq (fun k => (emp m.toNat i k, (k : Int))) m.toNat (emp m.toNat (i + 1) 0) (by omega) ?_ ?_ (s := (emp m.toNat i 0, 0)) rfl]
    · simp (disch := omega) only [Option.bind_some, chk_in64]; rfl
    · intro j hj
      unfold D_impl_emptySquare_s1
      dsimp only
      rw [Int.toNat_natCast, hw, bif_dt (by omega), chk_inR (by omega) (by omega), chk_in64 (by omega) (by omega), Int.toNat_natCast, emp_set hi hj]; rfl
    · unfold D_impl_emptySquare_s1
      dsimp only
      rw [Int.toNat_natCast, hw, bif_df (by omega), emp_next]
  · unfold D_impl_emptySquare_s0
    dsimp only
    rw [bif_df (by omega), emp_full]
theorem empty_SqS (m : Nat) : SqS m (List.replicate m (List.replicate m (-1))) := by
  refine ⟨List.length_replicate, fun k hk => ?_⟩
  simp [rw_, List.getD_eq_getElem?_getD, List.getElem?_replicate, hk]

/-! what both compute -/
theorem put_D {fu : Nat} {m : Int} {Z : Tt} {i j : Nat} {a b : Int} {k : Nat} (hk : k ≤ 14) (hZ : SqS k Z) (hi : i < k) (hj : j < k) (ha : 0 ≤ a ∧ a < b) (hb : b ≤ 14) : D_impl_Square_put fu m Z (i : Int) (j : Int) a b = some (Z.set i ((rw_ Z i).set j (14 * a + b))) := by
  have h1 := hZ.1
  have h2 := hZ.2 i hi
  unfold D_impl_Square_put
  rw [if_neg (by omega : ¬ b < a), if_pos (by omega : b > a), chk_inR (by omega) (by omega), chk_in64 (by omega) (by omega), chk_in64 (by omega) (by omega), Int.toNat_natCast, chk_inR (by omega) (by omega), Int.toNat_natCast]
theorem prs_last {n : Int} {r : List Int} (hn : 2 ≤ n ∧ n ≤ 14) (h : isRnd n r = true) : prs r n.toNat = prs r (n - 1).toNat := by
  have : n.toNat = (n - 1).toNat + 1 := by omega
  have hb := isRnd_at hn.2 h (a := (n - 1).toNat) (by omega)
  rw [this, prs_succ, if_neg (by omega)]
theorem prs_at {r : List Int} {m : Nat} : ∀ p ∈ prs r m, p.length = 2 ∧ ∃ a : Nat, a < m ∧ rd p 0 = (a : Int) ∧ rd p 1 = rd r a ∧ (a : Int) < rd r a := by
  intro p hp
  obtain ⟨a, ha, rfl⟩ := List.mem_map.1 hp
  obtain ⟨h1, h2⟩ := List.mem_filter.1 ha
  exact ⟨rfl, a, List.mem_range.1 h1, rfl, rfl, by simpa using h2⟩
def sqSch (n : Int) (rs : Tt) (n' : Int) (ts : Tt) : Int × Tt × Int :=
  if isSch n rs && isSch n' ts then if n' = n ∧ ¬ (n - 1).tmod 2 = 0 ∧ (rs.length : Int) = n - 1 ∧ (ts.length : Int) = n - 1 then (allG rs ts (n - 1).toNat (List.replicate (n - 1).toNat (List.replicate (n - 1).toNat (-1)))).elim (0, [], 5) (fun X => (n - 1, X, 0)) else (0, [], 2) else (0, [], 1)
theorem sqSch_small (n : Int) (rs : Tt) (n' : Int) (ts : Tt) : Small (sqSch n rs n' ts).2.1 ∧ totR (sqSch n rs n' ts).2.1 ≤ 1000 := by
  have h0 : Small ([] : Tt) ∧ totR ([] : Tt) ≤ 1000 := ⟨⟨Nat.zero_le _, fun r h => absurd h List.not_mem_nil⟩, Nat.zero_le _⟩
  unfold sqSch
  split
  · rename_i h
    rw [Bool.and_eq_true] at h
    obtain ⟨hn, h40⟩ := isSch_of h.1
    split
    · cases e : allG rs ts (n - 1).toNat (List.replicate (n - 1).toNat (List.replicate (n - 1).toNat (-1))) with
      | none => exact h0
      | some X =>
        have hX := allG_inv (empty_SqS _) e
        have hm : ∀ r ∈ X, r.length ≤ 14 := by
          intro r hr
          obtain ⟨k, hk, rfl⟩ := rw_of hr
          rw [hX.2 k (by rw [← hX.1]; exact hk)]; omega
        have h4 := tot_le hm
        have h5 := hX.1
        refine ⟨⟨?_, fun r hr => ?_⟩, ?_⟩
        · show X.length ≤ _; omega
        · have := hm r hr; omega
        · show totR X ≤ 1000; omega
    · exact h0
  · exact h0
theorem sz2 {l0 : Int} {k : Nat} (hl0 : l0 = szv 1048576 k) (h : ¬ l0 < 0) : l0 = 1048576 - k ∧ (k : Int) ≤ 1048576 := by
  subst hl0
  unfold szv at h ⊢
  by_cases h9 : (1048576 : Int) - (k : Int) < 0
  · rw [if_pos h9] at h; exact absurd (by decide) h
  · rw [if_neg h9]; exact ⟨rfl, by omega⟩
theorem szv_pos2 {l : Int} {n : Nat} (h0 : l ≤ 1048576) (h : ¬ szv l n < 0) : n ≤ 1048576 := by
  unfold szv at h
  by_cases h9 : l - (n : Int) < 0
  · rw [if_pos h9] at h; exact absurd (by decide) h
  · omega
end Go.Proofs.Ytakfkiahhfdjfaa

