/-
  Rounds and their pairs: what program and reference compute. Plain Lean, no program, no condition.
-/
import Derived.Test.YtdafmafigcljkaaDA
import Derived.Test.YtdafmafigcljkaaDTc
import Derived.Test.YtdafmafigcljkaaPuM
namespace Go.Proofs.Ytdafmafigcljkaa
open Go Am
set_option linter.unusedVariables false
set_option linter.unusedSimpArgs false

def inB (n lo hi : Int) : Bool := decide (lo ≤ n) && decide (n ≤ hi)
theorem inB_of {n lo hi : Int} (h : inB n lo hi = true) : lo ≤ n ∧ n ≤ hi := by simpa [inB] using h
theorem inB_t {n lo hi : Int} (h : lo ≤ n ∧ n ≤ hi) : inB n lo hi = true := by simpa [inB] using h
theorem inB_f {n lo hi : Int} (h : inB n lo hi = false) : ¬ (lo ≤ n ∧ n ≤ hi) := fun h' => by rw [inB_t h'] at h; cases h
theorem l01In_D (fu : Nat) (a b c : Int) : D_spec_l01In fu a b c = some (inB a b c) := rfl
theorem between_D (fu : Nat) (a b c : Int) : D_impl_between fu a b c = some (inB a b c) := rfl
theorem size_ints_D (fu : Nat) (a : List Int) : D_impl_size_int64 fu a = some (a.length : Int) ∨ True := .inr trivial

def rndAt (n : Int) (r : List Int) (j : Nat) : Bool := if (j : Int) < n then inB (rd r j) 0 (n - 1) && decide (rd r (rd r j).toNat = j) else decide (rd r j = 0)
def isRnd (n : Int) (r : List Int) : Bool := inB n 2 14 && (List.range 14).all (rndAt n r)
theorem bif_true {α : Type} {a b : α} : (bif true then a else b) = a := rfl
theorem bif_false {α : Type} {a b : α} : (bif false then a else b) = b := rfl
theorem l01Round_D {fu : Nat} (hf : Big fu) (n : Int) {r : List Int} (hr : r.length = 14) : D_spec_l01Round fu n r = some (isRnd n r) := by
  unfold Big at hf
  unfold D_spec_l01Round isRnd
  rw [l01In_D, Option.bind_some]
  cases hn : inB n 2 14 with
  | false => rfl
  | true =>
    have hn' := inB_of hn
    rw [Bool.not_true, bif_false, loop_all (fun k => (k : Int)) (rndAt n r) 14 (by omega) ?_ ?_ ?_ (s := 0) rfl, Bool.true_and]
    · cases (List.range 14).all (rndAt n r) <;> rfl
    all_goals first | (intro k hk hp _) | intro _
    · unfold D_spec_l01Round_s0
      unfold rndAt at hp
      by_cases h : (k : Int) < n
      · rw [if_pos h, Bool.and_eq_true, decide_eq_true_eq] at hp
        have h3 := inB_of hp.1
        have h4 := hp.2
        simp (disch := omega) only [bif_dt, bif_df, chk_inR, chk_in64, Int.toNat_natCast, l01In_D, Option.bind_some, hp.1, Bool.not_true, bif_false, h4, decide_true]
        rfl
      · rw [if_neg h, decide_eq_true_eq] at hp
        simp (disch := omega) only [bif_dt, bif_df, chk_inR, chk_in64, Int.toNat_natCast, hp, decide_true, Bool.not_true, bif_false, Option.bind_some]
        rfl
    · unfold D_spec_l01Round_s0
      unfold rndAt at hp
      by_cases h : (k : Int) < n
      · rw [if_pos h] at hp
        cases h3 : inB (rd r k) 0 (n - 1) with
        | false =>
          simp (disch := omega) only [bif_dt, bif_df, chk_inR, chk_in64, Int.toNat_natCast, l01In_D, Option.bind_some, h3, Bool.not_false, bif_true]
        | true =>
          have h5 := inB_of h3
          have h4 : ¬ rd r (rd r k).toNat = k := by rw [h3] at hp; simpa using hp
          simp (disch := omega) only [bif_dt, bif_df, chk_inR, chk_in64, Int.toNat_natCast, l01In_D, Option.bind_some, h3, Bool.not_true, bif_false, decide_eq_false h4, Bool.not_false, bif_true]
      · rw [if_neg h] at hp
        have h4 : ¬ rd r k = 0 := by simpa using hp
        simp (disch := omega) only [bif_dt, bif_df, chk_inR, chk_in64, Int.toNat_natCast, decide_eq_false h4, Bool.not_false, bif_true, Option.bind_some]
    · unfold D_spec_l01Round_s0
      simp (disch := omega) only [bif_df]
theorem IsRound_D {fu : Nat} (hf : Big fu) (n : Int) {r : List Int} (hr : r.length = 14) : D_impl_IsRound fu n r = some (isRnd n r) := by
  unfold Big at hf
  unfold D_impl_IsRound isRnd
  rw [between_D, Option.bind_some]
  cases hn : inB n 2 14 with
  | false => rfl
  | true =>
    have hn' := inB_of hn
    rw [Bool.not_true, bif_false, loop_all (fun k => (k : Int)) (rndAt n r) 14 (by omega) ?_ ?_ ?_ (s := 0) rfl, Bool.true_and]
    · cases (List.range 14).all (rndAt n r) <;> rfl
    all_goals first | (intro k hk hp _) | intro _
    · unfold D_impl_IsRound_s0
      unfold rndAt at hp
      by_cases h : (k : Int) < n
      · rw [if_pos h, Bool.and_eq_true, decide_eq_true_eq] at hp
        have h3 := inB_of hp.1
        have h4 := hp.2
        simp (disch := omega) only [bif_dt, bif_df, chk_inR, chk_in64, Int.toNat_natCast, between_D, Option.bind_some, hp.1, Bool.not_true, bif_false, h4, decide_true]
        rfl
      · rw [if_neg h, decide_eq_true_eq] at hp
        simp (disch := omega) only [bif_dt, bif_df, chk_inR, chk_in64, Int.toNat_natCast, hp, decide_true, Bool.not_true, bif_false, Option.bind_some]
        rfl
    · unfold D_impl_IsRound_s0
      unfold rndAt at hp
      by_cases h : (k : Int) < n
      · rw [if_pos h] at hp
        cases h3 : inB (rd r k) 0 (n - 1) with
        | false =>
          simp (disch := omega) only [bif_dt, bif_df, chk_inR, chk_in64, Int.toNat_natCast, between_D, Option.bind_some, h3, Bool.not_false, bif_true]
        | true =>
          have h5 := inB_of h3
          have h4 : ¬ rd r (rd r k).toNat = k := by rw [h3] at hp; simpa using hp
          simp (disch := omega) only [bif_dt, bif_df, chk_inR, chk_in64, Int.toNat_natCast, between_D, Option.bind_some, h3, Bool.not_true, bif_false, decide_eq_false h4, Bool.not_false, bif_true]
      · rw [if_neg h] at hp
        have h4 : ¬ rd r k = 0 := by simpa using hp
        simp (disch := omega) only [bif_dt, bif_df, chk_inR, chk_in64, Int.toNat_natCast, decide_eq_false h4, Bool.not_false, bif_true, Option.bind_some]
    · unfold D_impl_IsRound_s0
      simp (disch := omega) only [bif_df]

def prs (r : List Int) (k : Nat) : List (List Int) := ((List.range k).filter fun (a : Nat) => decide ((a : Int) < rd r a)).map fun (a : Nat) => [(a : Int), rd r a]
theorem prs_succ (r : List Int) (k : Nat) : prs r (k + 1) = if (k : Int) < rd r k then prs r k ++ [[(k : Int), rd r k]] else prs r k := by
  unfold prs
  rw [List.range_succ, List.filter_append, List.map_append]
  by_cases h : (k : Int) < rd r k <;> simp [h]
theorem prs_len (r : List Int) (k : Nat) : (prs r k).length ≤ k := by
  unfold prs; rw [List.length_map]
  have := List.length_filter_le (fun (a : Nat) => decide ((a : Int) < rd r a)) (List.range k)
  rwa [List.length_range] at this
theorem prs_two (r : List Int) (k : Nat) : ∀ p ∈ prs r k, p.length = 2 := by
  intro p h
  obtain ⟨a, _, rfl⟩ := List.mem_map.1 h
  rfl
theorem two_tot : ∀ {rs : List (List Int)}, (∀ p ∈ rs, p.length = 2) → totR rs = 2 * rs.length
  | [], _ => rfl
  | p :: rs, h => by
    have h1 := h p (List.mem_cons_self ..)
    have h2 := two_tot (rs := rs) (fun q hq => h q (List.mem_cons_of_mem _ hq))
    unfold totR at *
    rw [List.map_cons, List.sum_cons, h1, h2, List.length_cons]; omega
theorem prs_small (r : List Int) {k : Nat} (hk : k ≤ 14) : Small (prs r k) := ⟨by have := prs_len r k; omega, fun p h => by rw [prs_two r k p h]; omega⟩
theorem l01Pairs_D {fu : Nat} (hf : Big fu) {n : Int} (hn : 0 ≤ n ∧ n ≤ 14) (r : List Int) : D_spec_l01Pairs fu n r = some (prs r n.toNat) := by
  unfold Big at hf
  unfold D_spec_l01Pairs
  rw [loop_seq (fun k => (prs r k, (k : Int))) n.toNat (prs r n.toNat) (by omega) ?_ ?_ (s := ([], 0)) rfl]
  · rfl
  · intro k hk
    have hl := prs_len r k
    unfold D_spec_l01Pairs_s0
    rw [prs_succ]
    by_cases h : (k : Int) < rd r k
    · simp (disch := omega) only [bif_dt, chk_inR, chk_in64, chk_le, Int.toNat_natCast, if_pos]
      rfl
    · simp (disch := omega) only [bif_dt, bif_df, chk_inR, chk_in64, Int.toNat_natCast, if_neg]
      rfl
  · unfold D_spec_l01Pairs_s0
    simp (disch := omega) only [bif_df]
end Go.Proofs.Ytdafmafigcljkaa

