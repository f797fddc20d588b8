/-
  IsSquare, CellOf: what program and reference compute. Plain Lean, no program, no condition.
-/
import Derived.Test.YtocaepkkaihiiaaPuRO
namespace Go.Proofs.Ytocaepkkaihiiaa
open Go Am
set_option linter.unusedVariables false
set_option linter.unusedSimpArgs false

theorem rd_mem {l : List Int} {k : Nat} (h : k < l.length) : rd l k ∈ l := by
  unfold rd; rw [List.getD_eq_getElem?_getD, List.getElem?_eq_getElem h]; exact List.getElem_mem h
theorem rd_of {l : List Int} {r : Int} (h : r ∈ l) : ∃ k, k < l.length ∧ rd l k = r := by
  obtain ⟨k, hk, rfl⟩ := List.getElem_of_mem h
  exact ⟨k, hk, by simp [rd, List.getD_eq_getElem?_getD, List.getElem?_eq_getElem hk]⟩
theorem IndexFuncI_D {fu : Nat} (hf : Big fu) {rs : List Int} (hl : rs.length ≤ 4294967296) {q : Int → Option Bool} {p : Int → Bool} (hq : ∀ r ∈ rs, q r = some (p r)) :
    ∃ x, D_slices_IndexFunc_Sint64_int64 fu rs q = some x ∧ decide (0 ≤ x) = rs.any p := by
  unfold Big at hf
  unfold D_slices_IndexFunc_Sint64_int64
  rw [loop_find (fun k => (k : Int)) (fun k => !p (rd rs k)) rs.length (.inl ()) (fun k => .inr (k : Int)) (by omega) ?_ ?_ ?_ (s := 0) rfl]
  · have hle := firstNot_le (fun k => !p (rd rs k)) rs.length
    have hsp := firstNot_spec (fun k => !p (rd rs k)) rs.length
    generalize hm : firstNot (fun k => !p (rd rs k)) rs.length = m at hle hsp
    by_cases h : m < rs.length
    · refine ⟨(m : Int), by rw [if_pos h]; rfl, ?_⟩
      have h1 : p (rd rs m) = true := by simpa using hsp.2 h
      rw [decide_eq_true (by omega)]
      exact (List.any_eq_true.2 ⟨_, rd_mem h, h1⟩).symm
    · refine ⟨-1, by rw [if_neg h]; rfl, ?_⟩
      have : rs.any p = false := by
        rw [List.any_eq_false]
        intro r hr
        obtain ⟨k, hk, rfl⟩ := rd_of hr
        have := hsp.1 k (by omega)
        simpa using this
      rw [this]; rfl
  all_goals first | (intro k hk hp _) | intro _
  · have hp' : p (rd rs k) = false := by simpa using hp
    unfold D_slices_IndexFunc_Sint64_int64_s0
    simp (disch := omega) only [bif_dt, chk_inR, chk_in64, Int.toNat_natCast, hq _ (rd_mem hk), Option.bind_some, hp', bif_false]
    rfl
  · have hp' : p (rd rs k) = true := by simpa using hp
    unfold D_slices_IndexFunc_Sint64_int64_s0
    simp (disch := omega) only [bif_dt, chk_inR, chk_in64, Int.toNat_natCast, hq _ (rd_mem hk), Option.bind_some, hp', bif_true]
  · unfold D_slices_IndexFunc_Sint64_int64_s0
    simp (disch := omega) only [bif_df]
theorem ContainsFuncI_D {fu : Nat} (hf : Big fu) {rs : List Int} (hl : rs.length ≤ 4294967296) {q : Int → Option Bool} {p : Int → Bool} (hq : ∀ r ∈ rs, q r = some (p r)) : D_slices_ContainsFunc_Sint64_int64 fu rs q = some (rs.any p) := by
  obtain ⟨x, h1, h2⟩ := IndexFuncI_D hf hl hq
  unfold D_slices_ContainsFunc_Sint64_int64
  rw [h1, Option.bind_some, h2]
theorem any_not {α : Type} {p : α → Bool} : ∀ {l : List α}, l.any (fun x => !p x) = !l.all p
  | [] => rfl
  | x :: l => by rw [List.any_cons, List.all_cons, any_not, Bool.not_and]
theorem chk_div {α : Type} {x : Int} {k : Option α} (h0 : 0 ≤ x) (h1 : x ≤ 9223372036854775807) : chk ((14 : Int) ≠ 0 ∧ in64 (x.tdiv 14)) k = k := by
  refine chk_t ⟨by decide, ?_⟩
  rw [Int.tdiv_eq_ediv_of_nonneg h0]
  exact ⟨by omega, by omega⟩
def isC (n x : Int) : Bool := decide (x = -1) || (decide (0 ≤ x) && decide (x.tdiv 14 < x.tmod 14) && decide (x.tmod 14 ≤ n))
theorem isCell_D {fu : Nat} {n x : Int} (hx : x ≤ 9223372036854775807) : D_impl_isCell fu n x = some (isC n x) := by
  unfold D_impl_isCell isC
  by_cases h : x = -1
  · subst h; rfl
  · rw [bif_df h, decide_eq_false h]
    by_cases h0 : 0 ≤ x
    · rw [bif_dt h0, decide_eq_true h0, chk_div h0 hx]
      by_cases h1 : x.tdiv 14 < x.tmod 14
      · rw [bif_dt h1, decide_eq_true h1]; rfl
      · rw [bif_df h1, decide_eq_false h1]; rfl
    · rw [bif_df h0, decide_eq_false h0]; rfl
def isSq (n : Int) (rs : List (List Int)) : Bool := inB n 1 13 && !decide (n.tmod 2 = 0) && decide ((rs.length : Int) = n) && rs.all fun r => decide ((r.length : Int) = n) && r.all (isC n)
def R64 (rs : List (List Int)) : Prop := ∀ r ∈ rs, all64 r
theorem R64.at {rs : List (List Int)} (h : R64 rs) {r : List Int} (hr : r ∈ rs) {x : Int} (hx : x ∈ r) : x ≤ 9223372036854775807 := (h r hr x hx).2
theorem IsSquare_D {fu : Nat} (hf : Big fu) (n : Int) {rs : List (List Int)} (hs : Small rs) (h64 : R64 rs) : D_impl_IsSquare fu n rs = some (isSq n rs) := by
  unfold D_impl_IsSquare isSq
  rw [between_D, Option.bind_some]
  cases hn : inB n 1 13 with
  | false => rfl
  | true =>
    rw [Bool.not_true, bif_false]
    by_cases h2 : n.tmod 2 = 0
    · rw [bif_dt h2, decide_eq_true h2]; rfl
    · rw [bif_df h2, decide_eq_false h2]
      unfold D_impl_size_Sint64
      rw [Option.bind_some, Option.bind_some]
      by_cases hl : (rs.length : Int) = n
      · rw [bif_nt hl, decide_eq_true hl]
        rw [ContainsFuncT_D hf hs.1 (p := fun r => !(decide ((r.length : Int) = n) && r.all (isC n)))]
        · rw [Option.bind_some, any_not, Bool.not_not]; rfl
        · intro r hr
          unfold D_impl_IsSquare_1 D_impl_size_int64
          rw [Option.bind_some]
          by_cases hrl : (r.length : Int) = n
          · rw [bif_nt hrl, decide_eq_true hrl, ContainsFuncI_D hf (hs.2 r hr) (p := fun x => !isC n x)]
            · rw [Option.bind_some, Option.bind_some, any_not]; rfl
            · intro x hx
              unfold D_impl_IsSquare_1_1
              rw [isCell_D (h64.at hr hx)]; rfl
          · rw [bif_nf hrl, decide_eq_false hrl]; rfl
      · rw [bif_nf hl, decide_eq_false hl]; rfl
theorem isC_eq {n x : Int} (hn : 1 ≤ n ∧ n ≤ 13) : isC n x = (decide (x = -1) || (inB x 0 195 && !decide (x.tmod 14 ≤ x.tdiv 14) && !decide (n < x.tmod 14))) := by
  unfold isC
  by_cases h : x = -1
  · rw [decide_eq_true h]; rfl
  · rw [decide_eq_false h, Bool.false_or, Bool.false_or]
    by_cases h0 : 0 ≤ x
    · rw [decide_eq_true h0, Int.tdiv_eq_ediv_of_nonneg h0, Int.tmod_eq_emod_of_nonneg h0]
      by_cases h1 : x ≤ 195
      · rw [inB_t ⟨h0, h1⟩]
        rw [Bool.eq_iff_iff]
        simp only [Bool.and_eq_true, Bool.not_eq_true', decide_eq_true_eq, decide_eq_false_iff_not, true_and]
        omega
      · have : inB x 0 195 = false := by unfold inB; rw [decide_eq_false h1, Bool.and_false]
        rw [this, decide_eq_false (by omega : ¬ x / 14 < x % 14)]; rfl
    · have : inB x 0 195 = false := by unfold inB; rw [decide_eq_false h0, Bool.false_and]
      rw [this, decide_eq_false h0]; rfl
theorem l04Cell_D {fu : Nat} {n x : Int} (hn : 1 ≤ n ∧ n ≤ 13) : (bif !decide (x = (-1)) then
 ((D_spec_l01In fu x 0 195).bind fun b1250 =>
 bif !b1250 then
 (some true)
 else
 (chk ((14 : Int) ≠ 0 ∧ in64 (x.tdiv 14)) <|
 bif decide (x.tmod 14 ≤ x.tdiv 14) then
 (some true)
 else
 (some (decide (n < x.tmod 14)))))
 else
 (some false)) = some (!isC n x) := by
  rw [isC_eq hn]
  by_cases h : x = -1
  · rw [bif_nt h, decide_eq_true h]; rfl
  · rw [bif_nf h, decide_eq_false h, l01In_D, Option.bind_some]
    cases hx : inB x 0 195 with
    | false => rfl
    | true =>
      have := inB_of hx
      rw [chk_div (by omega) (by omega)]
      by_cases h1 : x.tmod 14 ≤ x.tdiv 14
      · rw [bif_dt h1, decide_eq_true h1]; rfl
      · rw [bif_df h1, decide_eq_false h1]; simp
theorem all_rd {l : List Int} {p : Int → Bool} : (List.range l.length).all (fun k => p (rd l k)) = l.all p := by
  rw [Bool.eq_iff_iff, List.all_eq_true, List.all_eq_true]
  constructor
  · intro h r hr
    obtain ⟨k, hk, rfl⟩ := rd_of hr
    exact h k (List.mem_range.2 hk)
  · intro h k hk
    exact h _ (rd_mem (List.mem_range.1 hk))
theorem l04Row_D {fu : Nat} (hf : Big fu) {n : Int} (hn : 1 ≤ n ∧ n ≤ 13) {rs : List (List Int)} {k : Nat} (hk : k < rs.length) (hl : ((rw_ rs k).length : Int) = n) (hk' : k < 4294967296) :
    loopF (D_spec_l04Is_s1 fu n rs (k : Int)) fu 0 = some (if (rw_ rs k).all (isC n) then .inl () else .inr false) := by
  unfold Big at hf
  rw [loop_all (fun k => (k : Int)) (fun j => isC n (rd (rw_ rs k) j)) (rw_ rs k).length (by omega) ?_ ?_ ?_ (s := 0) rfl]
  · rw [all_rd]
  all_goals first | (intro j hj hp _) | intro _
  all_goals unfold D_spec_l04Is_s1
  · simp (disch := omega) only [bif_dt, chk_inR, chk_in64, Int.toNat_natCast, l04Cell_D hn, hp, Option.bind_some, Bool.not_true, bif_false]
    rfl
  · simp (disch := omega) only [bif_dt, chk_inR, chk_in64, Int.toNat_natCast, l04Cell_D hn, hp, Option.bind_some, Bool.not_false, bif_true]
  · simp (disch := omega) only [bif_df]
theorem l04Is_D {fu : Nat} (hf : Big fu) (n : Int) {rs : List (List Int)} (hs : Small rs) : D_spec_l04Is fu n rs = some (isSq n rs) := by
  have hf' := hf
  unfold Big at hf
  unfold D_spec_l04Is isSq
  rw [l01In_D, Option.bind_some]
  cases hn : inB n 1 13 with
  | false => rfl
  | true =>
    have hn' := inB_of hn
    rw [Bool.not_true, bif_false]
    by_cases h2 : n.tmod 2 = 0
    · rw [bif_dt h2, decide_eq_true h2]; rfl
    · rw [bif_df h2, decide_eq_false h2, Option.bind_some]
      by_cases hl : (rs.length : Int) = n
      · rw [bif_nt hl, decide_eq_true hl]
        rw [loop_all (fun k => (k : Int)) (fun k => decide (((rw_ rs k).length : Int) = n) && (rw_ rs k).all (isC n)) rs.length (by omega) ?_ ?_ ?_ (s := 0) rfl]
        · simp only [Bool.not_false, Bool.true_and, Bool.and_true]
          have : (List.range rs.length).all (fun k => decide (((rw_ rs k).length : Int) = n) && (rw_ rs k).all (isC n)) = rs.all (fun r => decide ((r.length : Int) = n) && r.all (isC n)) := by
            rw [Bool.eq_iff_iff, List.all_eq_true, List.all_eq_true]
            constructor
            · intro h r hr
              obtain ⟨k, hk, rfl⟩ := rw_of hr
              exact h k (List.mem_range.2 hk)
            · intro h k hk
              exact h _ (rw_mem (List.mem_range.1 hk))
          rw [this]
          split
          · rename_i h; rw [h]; rfl
          · rename_i h; rw [Bool.not_eq_true] at h; rw [h]; rfl
        all_goals first | (intro k hk hp _) | intro _
        · obtain ⟨hp1, hp2⟩ := Bool.and_eq_true_iff.1 hp
          rw [decide_eq_true_eq] at hp1
          unfold D_spec_l04Is_s0
          rw [bif_dt (by omega), chk_inR (by omega) (by omega), Int.toNat_natCast, bif_nt hp1, l04Row_D hf' hn' hk hp1 (by omega), hp2]
          simp (disch := omega) only [if_true, Option.bind_some, chk_in64]
          rfl
        · unfold D_spec_l04Is_s0
          rw [bif_dt (by omega), chk_inR (by omega) (by omega), Int.toNat_natCast]
          by_cases hp1 : ((rw_ rs k).length : Int) = n
          · have hp2 : (rw_ rs k).all (isC n) = false := by rw [decide_eq_true hp1, Bool.true_and] at hp; exact hp
            rw [bif_nt hp1, l04Row_D hf' hn' hk hp1 (by omega), hp2]; rfl
          · rw [bif_nf hp1]
        · unfold D_spec_l04Is_s0
          simp (disch := omega) only [bif_df]
      · rw [bif_nf hl, decide_eq_false hl]; rfl
theorem szSquare_D {fu : Nat} (hf : Big fu) {n : Int} {rs : List (List Int)} {l : Int} (h0 : 0 ≤ l) (h1 : l ≤ 1048576) (hl : rs.length ≤ 9223372036854775807) (hr : ∀ r ∈ rs, r.length ≤ 9223372036854775807) :
    D_laws_szSquare fu n rs l = some (if (if szv l rs.length < 0 then -1 else szR (szv l rs.length) rs) < 0 then -1 else (if szv l rs.length < 0 then -1 else szR (szv l rs.length) rs)) := by
  unfold D_laws_szSquare
  rw [szInt64SS_D hf h0 h1 hl hr, Option.bind_some]
  generalize (if szv l rs.length < 0 then (-1 : Int) else szR (szv l rs.length) rs) = z
  by_cases h : z < 0
  · rw [bif_dt h, if_pos h]
  · rw [bif_df h, if_neg h]
theorem toSquare_D {fu : Nat} (hf : Big fu) {n : Int} {rs : List (List Int)} (hs : Small rs) : D_laws_toSquare fu n rs = some (n, rs) := by
  unfold D_laws_toSquare
  rw [toInt64SS_D hf hs]; rfl
theorem eqSquare_D {fu : Nat} (hf : Big fu) {n m : Int} {rs qs : List (List Int)} (hs : Small rs) : D_laws_eqSquare fu n rs m qs = some (decide (n = m) && decide (rs = qs)) := by
  unfold D_laws_eqSquare
  by_cases h : n = m
  · rw [bif_nt h, eqInt64SS_D hf hs, decide_eq_true h, Option.bind_some]
    by_cases h2 : rs = qs
    · rw [bif_nt h2, decide_eq_true h2]; rfl
    · rw [bif_nf h2, decide_eq_false h2]; rfl
  · rw [bif_nf h, decide_eq_false h]; rfl
theorem isSquare_law {fu : Nat} (hf : Big fu) (n : Int) {ps : List (List Int)} (hl : ps.length ≤ 9223372036854775807) (hr : ∀ r ∈ ps, r.length ≤ 9223372036854775807 ∧ all64 r) : D_laws_FnExactIsSquare fu n ps = some true := by
  unfold D_laws_FnExactIsSquare
  rw [szSquare_D hf (by omega) (by omega) hl (fun r h => (hr r h).1), Option.bind_some]
  by_cases h : (if szv 1048576 ps.length < 0 then -1 else szR (szv 1048576 ps.length) ps) < 0
  · rw [if_pos h, bif_dt (by decide)]
  · obtain ⟨h1, h2⟩ := sz_small h
    have hs : Small ps := ⟨by omega, fun r hr => by have := h2 r hr; omega⟩
    have h64 : R64 ps := fun r h => (hr r h).2
    rw [if_neg h, bif_df h]
    unfold D_spec_IsSquare
    simp only [toSquare_D hf hs, Option.bind_some, l04Is_D hf n hs, IsSquare_D hf n hs h64, beq_self_eq_true, Bool.not_true, bif_false, eqSquare_D hf hs, decide_true, Bool.and_true]
theorem isSq_at {n : Int} {ps : List (List Int)} (h : isSq n ps = true) {i j : Int} (hi : 0 ≤ i ∧ i ≤ n - 1) (hj : 0 ≤ j ∧ j ≤ n - 1) : i < (ps.length : Int) ∧ j < ((rw_ ps i.toNat).length : Int) ∧ rd (rw_ ps i.toNat) j.toNat ≤ 195 ∧ n ≤ 13 := by
  unfold isSq at h
  simp only [Bool.and_eq_true, decide_eq_true_eq, List.all_eq_true] at h
  have h1 := inB_of h.1.1.1
  have h2 := h.1.2
  have h3 := h.2 _ (rw_mem (by omega : i.toNat < ps.length))
  have h4 := h3.2 _ (rd_mem (by omega : j.toNat < (rw_ ps i.toNat).length))
  refine ⟨by omega, by omega, ?_, h1.2⟩
  rw [isC_eq h1] at h4
  rw [Bool.or_eq_true, decide_eq_true_eq] at h4
  rcases h4 with h4 | h4
  · omega
  · rw [Bool.and_eq_true, Bool.and_eq_true] at h4; exact (inB_of h4.1.1).2
def cellOf (n : Int) (ps : List (List Int)) (i j : Int) : Int × Int × Int :=
  if isSq n ps then if inB i 0 (n - 1) && inB j 0 (n - 1) then if rd (rw_ ps i.toNat) j.toNat < 0 then (0, 0, 4) else ((rd (rw_ ps i.toNat) j.toNat).tdiv 14, (rd (rw_ ps i.toNat) j.toNat).tmod 14, 0) else (0, 0, 2) else (0, 0, 1)
theorem cellOf_eqs {fu : Nat} (hf : Big fu) (n : Int) {ps : List (List Int)} (hs : Small ps) (h64 : R64 ps) (i j : Int) : D_spec_CellOf fu n ps i j = some (cellOf n ps i j) ∧ D_impl_CellOf fu n ps i j = some (cellOf n ps i j) := by
  unfold D_spec_CellOf D_impl_CellOf cellOf
  rw [l04Is_D hf n hs, IsSquare_D hf n hs h64, Option.bind_some, Option.bind_some]
  cases h : isSq n ps with
  | false => exact ⟨rfl, rfl⟩
  | true =>
    have hn : 1 ≤ n ∧ n ≤ 13 := by
      unfold isSq at h
      simp only [Bool.and_eq_true] at h
      exact inB_of h.1.1.1
    simp (disch := omega) only [Bool.not_true, bif_false, chk_in64, l01In_D, between_D, Option.bind_some]
    cases hi : inB i 0 (n - 1) with
    | false => exact ⟨rfl, rfl⟩
    | true =>
      simp (disch := omega) only [Bool.not_true, bif_false, chk_in64, l01In_D, between_D, Option.bind_some]
      cases hj : inB j 0 (n - 1) with
      | false => exact ⟨rfl, rfl⟩
      | true =>
        have hi' := inB_of hi
        have hj' := inB_of hj
        obtain ⟨a1, a2, a3, _⟩ := isSq_at h hi' hj'
        by_cases hx : rd (rw_ ps i.toNat) j.toNat < 0
        · simp (disch := omega) only [Bool.not_true, bif_false, Option.bind_some, chk_inR, bif_dt, if_pos hx]
          exact ⟨rfl, rfl⟩
        · simp (disch := omega) only [Bool.not_true, bif_false, Option.bind_some, chk_inR, bif_df, if_neg hx, chk_div]
          exact ⟨rfl, rfl⟩
theorem cellOf_law {fu : Nat} (hf : Big fu) (n : Int) {ps : List (List Int)} (i j : Int) (hl : ps.length ≤ 9223372036854775807) (hr : ∀ r ∈ ps, r.length ≤ 9223372036854775807 ∧ all64 r) : D_laws_FnExactCellOf fu n ps i j = some true := by
  unfold D_laws_FnExactCellOf
  rw [szSquare_D hf (by omega) (by omega) hl (fun r h => (hr r h).1), Option.bind_some]
  by_cases h : (if szv 1048576 ps.length < 0 then -1 else szR (szv 1048576 ps.length) ps) < 0
  · rw [if_pos h, bif_dt (by decide)]
  · obtain ⟨h1, h2⟩ := sz_small h
    have hs : Small ps := ⟨by omega, fun r hr => by have := h2 r hr; omega⟩
    have h64 : R64 ps := fun r h => (hr r h).2
    rw [if_neg h, bif_df h]
    obtain ⟨e1, e2⟩ := cellOf_eqs hf n hs h64 i j
    simp only [toSquare_D hf hs, Option.bind_some, e1, e2, Bool.not_true, bif_false, eqSquare_D hf hs, decide_true, Bool.and_true, Bool.or_false]
end Go.Proofs.Ytocaepkkaihiiaa
