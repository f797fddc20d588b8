/-
  FirstVenues, AreVenues: what program and reference compute, and the laws. Plain Lean, no program, no condition.
-/
import Derived.Test.YtdafmafigcljkaaPuT
namespace Go.Proofs.Ytdafmafigcljkaa
open Go Am
set_option linter.unusedVariables false
set_option linter.unusedSimpArgs false

/-! a list that is being written -/
def part (f : Nat → Int) (n k : Nat) : List Int := (List.range n).map fun a => if a < k then f a else 0
theorem part_len (f : Nat → Int) (n k : Nat) : (part f n k).length = n := by simp [part]
theorem part_zero (f : Nat → Int) (n : Nat) : part f n 0 = List.replicate n 0 := by
  apply List.ext_getElem?
  intro j
  by_cases h : j < n <;> simp [part, h, List.getElem?_replicate]
theorem part_set {f : Nat → Int} {n k : Nat} (h : k < n) : (part f n k).set k (f k) = part f n (k + 1) := by
  apply ints_ext
  · rw [List.length_set, part_len, part_len]
  · intro j hj
    rw [List.length_set, part_len] at hj
    rw [rd_set (by rw [part_len]; exact h)]
    unfold part
    rw [rd_map hj, rd_map hj]
    by_cases e : k = j
    · subst e; rw [if_pos rfl, if_pos (by omega)]
    · rw [if_neg e]
      have : (j < k) = (j < k + 1) := propext (by omega)
      simp only [this]
theorem part_skip {f : Nat → Int} {n k : Nat} (h : f k = 0) : part f n k = part f n (k + 1) := by
  unfold part
  apply List.map_congr_left
  intro j hj
  by_cases e : j = k
  · subst e; rw [if_neg (by omega), if_pos (by omega), h]
  · have : (j < k) = (j < k + 1) := propext (by omega)
    simp only [this]
theorem part_full (f : Nat → Int) (n : Nat) : part f n n = (List.range n).map f := by
  unfold part
  apply List.map_congr_left
  intro j hj
  rw [if_pos (List.mem_range.1 hj)]
def fv1 (r : List Int) (a : Nat) : Int := if (a : Int) = rd r a then -1 else if (a : Int) < rd r a then 1 else 0
def fvRow (n : Int) (r : List Int) : List Int := (List.range n.toNat).map (fv1 r)
theorem fvRow_len (n : Int) (r : List Int) : (fvRow n r).length = n.toNat := by simp [fvRow]
theorem map_take {f : List Int → List Int} {rs : List (List Int)} {k : Nat} (h : k < rs.length) : (rs.take k).map f ++ [f (rw_ rs k)] = (rs.take (k + 1)).map f := by rw [take_rw h, List.map_append]; rfl
def firstV (n : Int) (rs : List (List Int)) : List (List Int) × Int := if isSch n rs then (rs.map (fvRow n), 0) else ([], 1)
theorem firstV_small (n : Int) (rs : List (List Int)) : Small (firstV n rs).1 ∧ totR (firstV n rs).1 ≤ 1000 := by
  unfold firstV
  split
  · rename_i h
    obtain ⟨hn, h40⟩ := isSch_of h
    have h1 : ∀ r ∈ rs.map (fvRow n), r.length ≤ 14 := by
      intro r hr
      obtain ⟨q, hq, rfl⟩ := List.mem_map.1 hr
      rw [fvRow_len]; omega
    have h4 := tot_le h1
    have h5 : (rs.map (fvRow n)).length = rs.length := List.length_map ..
    refine ⟨⟨?_, fun r hr => ?_⟩, ?_⟩
    · show (rs.map (fvRow n)).length ≤ _; omega
    · have := h1 r hr; omega
    · show totR (rs.map (fvRow n)) ≤ 1000; omega
  · exact ⟨⟨Nat.zero_le _, fun r h => absurd h List.not_mem_nil⟩, Nat.zero_le _⟩
/-! AreVenues -/
def formV (n : Int) (rs vs : List (List Int)) : Bool := decide (vs.length = rs.length) && vs.all fun v => decide ((v.length : Int) = n) && v.all fun x => inB x (-1) 1
def areAt (r v : List Int) (a : Nat) : Bool := if rd r a = a then decide (rd v a = -1) else decide (0 ≤ rd v a) && decide (rd v a + rd v (rd r a).toNat = 1)
def areV (n : Int) (rs vs : List (List Int)) : Bool := (List.range rs.length).all fun i => (List.range n.toNat).all (areAt (rw_ rs i) (rw_ vs i))
theorem isRnd_at {n : Int} {r : List Int} (hn : n ≤ 14) (h : isRnd n r = true) {a : Nat} (ha : (a : Int) < n) : 0 ≤ rd r a ∧ rd r a ≤ n - 1 := by
  unfold isRnd at h
  rw [Bool.and_eq_true, List.all_eq_true] at h
  have := h.2 a (List.mem_range.2 (by omega))
  unfold rndAt at this
  rw [if_pos ha, Bool.and_eq_true] at this
  exact inB_of this.1
theorem formV_of {n : Int} {rs vs : List (List Int)} (h : formV n rs vs = true) : vs.length = rs.length ∧ ∀ v ∈ vs, (v.length : Int) = n ∧ ∀ x ∈ v, -1 ≤ x ∧ x ≤ 1 := by
  unfold formV at h
  simp only [Bool.and_eq_true, decide_eq_true_eq, List.all_eq_true] at h
  exact ⟨h.1, fun v hv => ⟨(h.2 v hv).1, fun x hx => inB_of ((h.2 v hv).2 x hx)⟩⟩
theorem isSch_all {n : Int} {rs : List (List Int)} (h : isSch n rs = true) : ∀ r ∈ rs, isRnd n r = true := by
  unfold isSch at h
  rw [Bool.and_eq_true, List.all_eq_true] at h
  exact h.2
def areVs (n : Int) (rs vs : List (List Int)) : Bool × Int := if isSch n rs then if formV n rs vs then (areV n rs vs, 0) else (false, 2) else (false, 1)
end Go.Proofs.Ytdafmafigcljkaa

