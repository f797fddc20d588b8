/-
  Rounds and their pairs: what program and reference compute. Plain Lean, no program, no condition.
-/
import Derived.Test.YtdafmafigcljkaaDA
import Derived.Test.YtdafmafigcljkaaPuM
namespace Go.Proofs.Ytdafmafigcljkaa
open Go Am
set_option linter.unusedVariables false
set_option linter.unusedSimpArgs false

def inB (n lo hi : Int) : Bool := decide (lo ≤ n) && decide (n ≤ hi)
theorem inB_of {n lo hi : Int} (h : inB n lo hi = true) : lo ≤ n ∧ n ≤ hi := by simpa [inB] using h
theorem inB_t {n lo hi : Int} (h : lo ≤ n ∧ n ≤ hi) : inB n lo hi = true := by simpa [inB] using h
theorem inB_f {n lo hi : Int} (h : inB n lo hi = false) : ¬ (lo ≤ n ∧ n ≤ hi) := fun h' => by rw [inB_t h'] at h; cases h
theorem l01In_D (fu : Nat) (a b c : Int) : D_spec_l01In fu a b c = some (inB a b c) := rfl
theorem between_D (fu : Nat) (a b c : Int) : D_impl_between fu a b c = some (inB a b c) := rfl
def rndAt (n : Int) (r : List Int) (j : Nat) : Bool := if (j : Int) < n then inB (rd r j) 0 (n - 1) && decide (rd r (rd r j).toNat = j) else decide (rd r j = 0)
def isRnd (n : Int) (r : List Int) : Bool := inB n 2 14 && (List.range 14).all (rndAt n r)
theorem bif_true {α : Type} {a b : α} : (bif true then a else b) = a := rfl
theorem bif_false {α : Type} {a b : α} : (bif false then a else b) = b := rfl
def prs (r : List Int) (k : Nat) : List (List Int) := ((List.range k).filter fun (a : Nat) => decide ((a : Int) < rd r a)).map fun (a : Nat) => [(a : Int), rd r a]
theorem prs_succ (r : List Int) (k : Nat) : prs r (k + 1) = if (k : Int) < rd r k then prs r k ++ [[(k : Int), rd r k]] else prs r k := by
  unfold prs
  rw [List.range_succ, List.filter_append, List.map_append]
  by_cases h : (k : Int) < rd r k <;> simp [h]
theorem prs_len (r : List Int) (k : Nat) : (prs r k).length ≤ k := by
  unfold prs; rw [List.length_map]
  have := List.length_filter_le (fun (a : Nat) => decide ((a : Int) < rd r a)) (List.range k)
  rwa [List.length_range] at this
theorem prs_two (r : List Int) (k : Nat) : ∀ p ∈ prs r k, p.length = 2 := by
  intro p h
  obtain ⟨a, _, rfl⟩ := List.mem_map.1 h
  rfl
theorem two_tot : ∀ {rs : List (List Int)}, (∀ p ∈ rs, p.length = 2) → totR rs = 2 * rs.length
  | [], _ => rfl
  | p :: rs, h => by
    have h1 := h p (List.mem_cons_self ..)
    have h2 := two_tot (rs := rs) (fun q hq => h q (List.mem_cons_of_mem _ hq))
    unfold totR at *
    rw [List.map_cons, List.sum_cons, h1, h2, List.length_cons]; omega
theorem prs_small (r : List Int) {k : Nat} (hk : k ≤ 14) : Small (prs r k) := ⟨by have := prs_len r k; omega, fun p h => by rw [prs_two r k p h]; omega⟩
end Go.Proofs.Ytdafmafigcljkaa

