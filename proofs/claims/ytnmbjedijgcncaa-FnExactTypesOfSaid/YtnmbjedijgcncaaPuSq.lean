/-
  IsSquare, CellOf: what program and reference compute. Plain Lean, no program, no condition.
-/
import Derived.Test.YtnmbjedijgcncaaDA
import Derived.Test.YtnmbjedijgcncaaPuRO
namespace Go.Proofs.Ytnmbjedijgcncaa
open Go Am
set_option linter.unusedVariables false
set_option linter.unusedSimpArgs false

theorem rd_mem {l : List Int} {k : Nat} (h : k < l.length) : rd l k ∈ l := by
  unfold rd; rw [List.getD_eq_getElem?_getD, List.getElem?_eq_getElem h]; exact List.getElem_mem h
theorem rd_of {l : List Int} {r : Int} (h : r ∈ l) : ∃ k, k < l.length ∧ rd l k = r := by
  obtain ⟨k, hk, rfl⟩ := List.getElem_of_mem h
  exact ⟨k, hk, by simp [rd, List.getD_eq_getElem?_getD, List.getElem?_eq_getElem hk]⟩
theorem any_not {α : Type} {p : α → Bool} : ∀ {l : List α}, l.any (fun x => !p x) = !l.all p
  | [] => rfl
  | x :: l => by rw [List.any_cons, List.all_cons, any_not, Bool.not_and]
theorem chk_div {α : Type} {x : Int} {k : Option α} (h0 : 0 ≤ x) (h1 : x ≤ 9223372036854775807) : chk ((14 : Int) ≠ 0 ∧ in64 (x.tdiv 14)) k = k := by
  refine chk_t ⟨by decide, ?_⟩
  rw [Int.tdiv_eq_ediv_of_nonneg h0]
  exact ⟨by omega, by omega⟩
def isC (n x : Int) : Bool := decide (x = -1) || (decide (0 ≤ x) && decide (x.tdiv 14 < x.tmod 14) && decide (x.tmod 14 ≤ n))
def isSq (n : Int) (rs : List (List Int)) : Bool := inB n 1 13 && !decide (n.tmod 2 = 0) && decide ((rs.length : Int) = n) && rs.all fun r => decide ((r.length : Int) = n) && r.all (isC n)
def R64 (rs : List (List Int)) : Prop := ∀ r ∈ rs, all64 r
theorem R64.at {rs : List (List Int)} (h : R64 rs) {r : List Int} (hr : r ∈ rs) {x : Int} (hx : x ∈ r) : x ≤ 9223372036854775807 := (h r hr x hx).2
theorem isC_eq {n x : Int} (hn : 1 ≤ n ∧ n ≤ 13) : isC n x = (decide (x = -1) || (inB x 0 195 && !decide (x.tmod 14 ≤ x.tdiv 14) && !decide (n < x.tmod 14))) := by
  unfold isC
  by_cases h : x = -1
  · rw [decide_eq_true h]; rfl
  · rw [decide_eq_false h, Bool.false_or, Bool.false_or]
    by_cases h0 : 0 ≤ x
    · rw [decide_eq_true h0, Int.tdiv_eq_ediv_of_nonneg h0, Int.tmod_eq_emod_of_nonneg h0]
      by_cases h1 : x ≤ 195
      · rw [inB_t ⟨h0, h1⟩]
        rw [Bool.eq_iff_iff]
        simp only [Bool.and_eq_true, Bool.not_eq_true', decide_eq_true_eq, decide_eq_false_iff_not, true_and]
        omega
      · have : inB x 0 195 = false := by unfold inB; rw [decide_eq_false h1, Bool.and_false]
        rw [this, decide_eq_false (by omega : ¬ x / 14 < x % 14)]; rfl
    · have : inB x 0 195 = false := by unfold inB; rw [decide_eq_false h0, Bool.false_and]
      rw [this, decide_eq_false h0]; rfl
theorem l04Cell_D {fu : Nat} {n x : Int} (hn : 1 ≤ n ∧ n ≤ 13) : (bif !decide (x = (-1)) then
 ((D_spec_l01In fu x 0 195).bind fun b1250 =>
 bif !b1250 then
 (some true)
 else
 (chk ((14 : Int) ≠ 0 ∧ in64 (x.tdiv 14)) <|
 bif decide (x.tmod 14 ≤ x.tdiv 14) then
 (some true)
 else
 (some (decide (n < x.tmod 14)))))
 else
 (some false)) = some (!isC n x) := by
  rw [isC_eq hn]
  by_cases h : x = -1
  · rw [bif_nt h, decide_eq_true h]; rfl
  · rw [bif_nf h, decide_eq_false h, l01In_D, Option.bind_some]
    cases hx : inB x 0 195 with
    | false => rfl
    | true =>
      have := inB_of hx
      rw [chk_div (by omega) (by omega)]
      by_cases h1 : x.tmod 14 ≤ x.tdiv 14
      · rw [bif_dt h1, decide_eq_true h1]; rfl
      · rw [bif_df h1, decide_eq_false h1]; simp
theorem all_rd {l : List Int} {p : Int → Bool} : (List.range l.length).all (fun k => p (rd l k)) = l.all p := by
  rw [Bool.eq_iff_iff, List.all_eq_true, List.all_eq_true]
  constructor
  · intro h r hr
    obtain ⟨k, hk, rfl⟩ := rd_of hr
    exact h k (List.mem_range.2 hk)
  · intro h k hk
    exact h _ (rd_mem (List.mem_range.1 hk))
theorem isSq_at {n : Int} {ps : List (List Int)} (h : isSq n ps = true) {i j : Int} (hi : 0 ≤ i ∧ i ≤ n - 1) (hj : 0 ≤ j ∧ j ≤ n - 1) : i < (ps.length : Int) ∧ j < ((rw_ ps i.toNat).length : Int) ∧ rd (rw_ ps i.toNat) j.toNat ≤ 195 ∧ n ≤ 13 := by
  unfold isSq at h
  simp only [Bool.and_eq_true, decide_eq_true_eq, List.all_eq_true] at h
  have h1 := inB_of h.1.1.1
  have h2 := h.1.2
  have h3 := h.2 _ (rw_mem (by omega : i.toNat < ps.length))
  have h4 := h3.2 _ (rd_mem (by omega : j.toNat < (rw_ ps i.toNat).length))
  refine ⟨by omega, by omega, ?_, h1.2⟩
  rw [isC_eq h1] at h4
  rw [Bool.or_eq_true, decide_eq_true_eq] at h4
  rcases h4 with h4 | h4
  · omega
  · rw [Bool.and_eq_true, Bool.and_eq_true] at h4; exact (inB_of h4.1.1).2
def cellOf (n : Int) (ps : List (List Int)) (i j : Int) : Int × Int × Int :=
  if isSq n ps then if inB i 0 (n - 1) && inB j 0 (n - 1) then if rd (rw_ ps i.toNat) j.toNat < 0 then (0, 0, 4) else ((rd (rw_ ps i.toNat) j.toNat).tdiv 14, (rd (rw_ ps i.toNat) j.toNat).tmod 14, 0) else (0, 0, 2) else (0, 0, 1)
end Go.Proofs.Ytnmbjedijgcncaa

