/-
  SquareOfStarter: what program and reference compute, and the law. Plain Lean, no program, no condition.
-/
import Derived.Test.YtakfkiahhfdjfaaDJ
import Derived.Test.YtakfkiahhfdjfaaDZ
import Derived.Test.YtakfkiahhfdjfaaPuG
import Derived.Test.YtakfkiahhfdjfaaPuW
namespace Go.Proofs.Ytakfkiahhfdjfaa
open Go Am
set_option linter.unusedVariables false
set_option linter.unusedSimpArgs false

def sqC (m : Int) (as : List Int) (j k : Nat) : Int := ((j : Int) + m - rd as k).tmod m
def sqV (m : Int) (ps : List (List Int)) (j k : Nat) : Int := cel ((rd (rw_ ps k) 0 + (j : Int)).tmod m) ((rd (rw_ ps k) 1 + (j : Int)).tmod m)
def sqI (m : Int) (ps : List (List Int)) (as : List Int) (j : Nat) (X : List (List Int)) : Nat → List (List Int)
  | 0 => X.set j ((rw_ X j).set j (14 * (j : Int) + m))
  | k + 1 => (sqI m ps as j X k).set j ((rw_ (sqI m ps as j X k) j).set (sqC m as j k).toNat (sqV m ps j k))
def sqO (m : Int) (ps : List (List Int)) (as : List Int) : Nat → List (List Int)
  | 0 => List.replicate m.toNat (List.replicate m.toNat (-1))
  | j + 1 => sqI m ps as j (sqO m ps as j) ps.length
theorem sqI_SqS {m : Int} {ps : List (List Int)} {as : List Int} {j : Nat} (hj : j < m.toNat) {X : List (List Int)} (h : SqS m.toNat X) : ∀ k, SqS m.toNat (sqI m ps as j X k)
  | 0 => h.set hj
  | k + 1 => (sqI_SqS hj h k).set hj
theorem sqO_SqS (m : Int) (ps : List (List Int)) (as : List Int) : ∀ j, j ≤ m.toNat → SqS m.toNat (sqO m ps as j)
  | 0, _ => empty_SqS _
  | j + 1, h => sqI_SqS (by omega) (sqO_SqS m ps as j (by omega)) _
theorem sq_in {m : Int} {p : List Int} {a : Int} {j : Nat} (hm : 3 ≤ m ∧ m ≤ 13) (hp : okS m p = true) (ha : 1 ≤ a ∧ a ≤ m - 1) (hj : (j : Int) < m) :
    (0 ≤ (rd p 0 + (j : Int)).tmod m ∧ (rd p 0 + (j : Int)).tmod m < m) ∧ (0 ≤ (rd p 1 + (j : Int)).tmod m ∧ (rd p 1 + (j : Int)).tmod m < m) ∧ 0 ≤ ((j : Int) + m - a).tmod m ∧ ((j : Int) + m - a).tmod m < m := by
  obtain ⟨o0, o1, o2, o3⟩ := okS_of hp
  rw [mod2 (by omega) (by omega) (by omega), mod2 (by omega) (by omega) (by omega), mod2 (by omega) (by omega) (by omega)]
  refine ⟨?_, ?_, ?_⟩ <;> split <;> omega
theorem sSq_loop {fu : Nat} (hf : Big fu) {m : Int} (hm : 3 ≤ m ∧ m ≤ 13) {ps : List (List Int)} {as : List Int} (hl : as.length = ps.length) (h100 : ps.length ≤ 100) (hok : ∀ p ∈ ps, okS m p = true) (ha : ∀ a ∈ as, 1 ≤ a ∧ a ≤ m - 1) :
    loopF (D_spec_SquareOfStarter_s0 fu m ps as (sqO m ps as 0)) fu (sqO m ps as 0, 0) = some (sqO m ps as m.toNat) := by
  unfold Big at hf
  have h0 := (sqO_SqS m ps as 0 (Nat.zero_le _)).1
  rw [loop_seq (fun k => (sqO m ps as k, (k : Int))) m.toNat (sqO m ps as m.toNat) (by omega) ?_ ?_ (s := (sqO m ps as 0, 0)) rfl]
  · intro j hj
    have hX := sqO_SqS m ps as j (by omega)
    have hXj := hX.2 j hj
    unfold D_spec_SquareOfStarter_s0
    dsimp only
    rw [bif_dt (by omega), chk_inR (by omega) (by omega), chk_in64 (by omega) (by omega), chk_in64 (by omega) (by omega), Int.toNat_natCast, chk_inR (by omega) (by omega)]
    rw [loop_seq (fun k => (sqI m ps as j (sqO m ps as j) k, (k : Int))) ps.length (sqO m ps as (j + 1)) (by omega) ?_ ?_ (s := ((sqO m ps as j).set j ((rw_ (sqO m ps as j) j).set j (14 * (j : Int) + m)), 0)) rfl]
    · rw [Option.bind_some, chk_in64 (by omega) (by omega)]; rfl
    · intro k hk
      have hp := hok _ (rw_mem hk)
      have hak := ha _ (rd_mem (by omega : k < as.length))
      obtain ⟨o0, o1, o2, o3⟩ := okS_of hp
      obtain ⟨s1, s2, s3⟩ := sq_in (j := j) hm hp hak (by omega)
      obtain ⟨g5, g6⟩ := cel_in (a := (rd (rw_ ps k) 0 + (j : Int)).tmod m) (b := (rd (rw_ ps k) 1 + (j : Int)).tmod m) ⟨s1.1, by omega⟩ ⟨s2.1, by omega⟩
      unfold cel at g6
      unfold D_spec_SquareOfStarter_s1
      dsimp only
      rw [bif_dt (by omega), Int.toNat_natCast, Int.toNat_natCast]
      simp (disch := omega) only [chk_inR, chk_in64, chk_ne]
      rfl
    · unfold D_spec_SquareOfStarter_s1
      simp (disch := omega) only [bif_df]; rfl
  · unfold D_spec_SquareOfStarter_s0
    simp (disch := omega) only [bif_df]
theorem iSq_loop {fu : Nat} (hf : Big fu) {m : Int} (hm : 3 ≤ m ∧ m ≤ 13) {ps : List (List Int)} {as : List Int} (hl : as.length = ps.length) (h100 : ps.length ≤ 100) (hok : ∀ p ∈ ps, okS m p = true) (ha : ∀ a ∈ as, 1 ≤ a ∧ a ≤ m - 1) (x : Int) :
    loopF (D_impl_SquareOfStarter_s0 fu m ps as x) fu (sqO m ps as 0, 0) = some (sqO m ps as m.toNat) := by
  unfold Big at hf
  rw [loop_seq (fun k => (sqO m ps as k, (k : Int))) m.toNat (sqO m ps as m.toNat) (by omega) ?_ ?_ (s := (sqO m ps as 0, 0)) rfl]
  · intro j hj
    have hX := sqO_SqS m ps as j (by omega)
    have ec : cel (j : Int) m = 14 * (j : Int) + m := by unfold cel; rw [if_neg (by omega), if_pos (by omega)]
    unfold D_impl_SquareOfStarter_s0
    dsimp only
    rw [bif_dt (by omega), put2_D (k := m.toNat) (by omega) hX hj hj ⟨by omega, by omega⟩ ⟨by omega, by omega⟩, Option.bind_some, ec]
    rw [loop_seq (fun k => (sqI m ps as j (sqO m ps as j) k, (k : Int))) ps.length (sqO m ps as (j + 1)) (by omega) ?_ ?_ (s := ((sqO m ps as j).set j ((rw_ (sqO m ps as j) j).set j (14 * (j : Int) + m)), 0)) rfl]
    · rw [Option.bind_some, chk_in64 (by omega) (by omega)]; rfl
    · intro k hk
      have hp := hok _ (rw_mem hk)
      have hak := ha _ (rd_mem (by omega : k < as.length))
      obtain ⟨o0, o1, o2, o3⟩ := okS_of hp
      obtain ⟨s1, s2, s3⟩ := sq_in (j := j) hm hp hak (by omega)
      have e : (j : Int) - rd as k + m = (j : Int) + m - rd as k := by omega
      have hc : ((((j : Int) + m - rd as k).tmod m).toNat : Int) = ((j : Int) + m - rd as k).tmod m := by omega
      unfold D_impl_SquareOfStarter_s1
      dsimp only
      rw [bif_dt (by omega), Int.toNat_natCast]
      simp (disch := omega) only [chk_inR, chk_in64, chk_ne]
      rw [e, ← hc, put2_D (k := m.toNat) (by omega) (sqI_SqS hj hX k) hj (by omega) ⟨s1.1, by omega⟩ ⟨s2.1, by omega⟩, Option.bind_some]
      rfl
    · unfold D_impl_SquareOfStarter_s1
      simp (disch := omega) only [bif_df]; rfl
  · unfold D_impl_SquareOfStarter_s0
    simp (disch := omega) only [bif_df]
def sqSt (m : Int) (ps : List (List Int)) (as : List Int) : Int × List (List Int) × Int :=
  if (addOf m ps as).2 = 0 then if (addOf m ps as).1 then (m, sqO m ps as m.toNat, 0) else (0, [], 5) else (0, [], (addOf m ps as).2)
theorem addOf_of {m : Int} {ps : List (List Int)} {as : List Int} (h : (addOf m ps as).2 = 0) : (3 ≤ m ∧ m ≤ 13) ∧ (∀ p ∈ ps, okS m p = true) ∧ as.length = ps.length ∧ (∀ a ∈ as, 1 ≤ a ∧ a ≤ m - 1) ∧ ps.length ≤ 100 := by
  unfold addOf at h
  split at h
  · rename_i h1
    rw [Bool.and_eq_true] at h1
    split at h
    · rename_i h2
      split at h
      · rename_i h3
        obtain ⟨hn, hok', hl2⟩ := stCode_zero (stLen h1.1 h1.2 h3)
        obtain ⟨c1, c2⟩ := adC_of h2
        exact ⟨⟨hn.1, hn.2.1⟩, hok', c1, c2, by omega⟩
      · exact absurd h (by decide)
    · exact absurd h (by decide)
  · exact absurd h (by decide)
theorem sqSt_eqs {fu : Nat} (hf : Big fu) (m : Int) {ps : List (List Int)} (hl : ps.length ≤ 4294967296) {as : List Int} (hla : as.length ≤ 4294967296) : D_spec_SquareOfStarter fu m ps as = some (sqSt m ps as) ∧ D_impl_SquareOfStarter fu m ps as = some (sqSt m ps as) := by
  have e1 := sAdd_D hf m hl hla
  have e2 := iAdd_D hf m hl hla
  unfold D_spec_SquareOfStarter D_impl_SquareOfStarter sqSt
  rw [e1, e2, Option.bind_some, Option.bind_some]
  by_cases h : (addOf m ps as).2 = 0
  · obtain ⟨hm, hok, hll, ha, h100⟩ := addOf_of h
    have l1 := sSq_loop hf hm hll h100 hok ha
    have l2 := iSq_loop hf hm hll h100 hok ha
    have z1 := l04Empty_D hf (m := m) ⟨by omega, by omega⟩
    have z2 := emptySquare_D hf (m := m) ⟨by omega, by omega⟩
    generalize hw : addOf m ps as = w at h
    obtain ⟨b, c⟩ := w
    obtain rfl : c = 0 := h
    cases b with
    | false => exact ⟨rfl, rfl⟩
    | true =>
      simp only [decide_true, Bool.not_true, Bool.and_false, bif_false, Option.bind_some, if_true, z1, z2]
      constructor
      · rw [show List.replicate m.toNat (List.replicate m.toNat (-1)) = sqO m ps as 0 from rfl, l1]; rfl
      · rw [show List.replicate m.toNat (List.replicate m.toNat (-1)) = sqO m ps as 0 from rfl, l2 m]; rfl
  · generalize hw : addOf m ps as = w at h
    obtain ⟨b, c⟩ := w
    have h' : ¬ c = 0 := h
    dsimp only
    rw [if_neg h', decide_eq_false h', Bool.false_and, bif_false, Option.bind_some, bif_nf h']
    exact ⟨rfl, rfl⟩
theorem sqSt_small (m : Int) (ps : List (List Int)) (as : List Int) : Small (sqSt m ps as).2.1 ∧ totR (sqSt m ps as).2.1 ≤ 1000 := by
  have h0 : Small ([] : List (List Int)) ∧ totR ([] : List (List Int)) ≤ 1000 := ⟨⟨Nat.zero_le _, fun r h => absurd h List.not_mem_nil⟩, Nat.zero_le _⟩
  unfold sqSt
  split
  · rename_i h
    obtain ⟨hm, hok, hll, ha, h100⟩ := addOf_of h
    split
    · have hX := sqO_SqS m ps as m.toNat (Nat.le_refl _)
      generalize sqO m ps as m.toNat = X at hX
      have hmm : ∀ r ∈ X, r.length ≤ 14 := by
        intro r hr
        obtain ⟨k, hk, rfl⟩ := rw_of hr
        rw [hX.2 k (by rw [← hX.1]; exact hk)]; omega
      have h4 := tot_le hmm
      have h5 := hX.1
      refine ⟨⟨?_, fun r hr => ?_⟩, ?_⟩
      · show X.length ≤ _; omega
      · have := hmm r hr; omega
      · show totR X ≤ 1000; omega
    · exact h0
  · exact h0
theorem sqSt_law {fu : Nat} (hf : Big fu) (m : Int) {ps : List (List Int)} (hl : ps.length ≤ 9223372036854775807) (hr : ∀ r ∈ ps, r.length ≤ 9223372036854775807) (as : List Int) : D_laws_FnExactSquareOfStarter fu m ps as = some true := by
  unfold D_laws_FnExactSquareOfStarter
  by_cases h0 : (1048576 : Int) < ((as.length : Nat) : Int)
  · rw [bif_dt h0]
  · rw [bif_df h0, szInt64SS_D hf (by omega) (by omega) hl hr, Option.bind_some]
    by_cases h : (if szv 1048576 ps.length < 0 then -1 else szR (szv 1048576 ps.length) ps) < 0
    · rw [bif_dt h]
    · obtain ⟨h1, h2⟩ := sz_small h
      have h3 := sz_tot h
      have hs : Small ps := ⟨by omega, fun r hr => by have := h2 r hr; omega⟩
      have hx : as.length ≤ 4294967296 := by omega
      rw [bif_df h]
      obtain ⟨e1, e2⟩ := sqSt_eqs hf m hs.1 hx
      obtain ⟨w1, w2⟩ := sqSt_small m ps as
      generalize sqSt m ps as = w at e1 e2 w1 w2
      obtain ⟨q, ws, c⟩ := w
      have m1 := markInt64SS_D hf (k := 1) hs (by omega) (by omega)
      have m1' := markInt64S_D hf (a := as) (k := 1 + totR ps) (by omega) (by omega) (by omega)
      have m2 := markSquare_D hf (n := q) (k := 1) w1 (by omega) (by omega)
      have m3 := heldSquare_D hf (n := q) (k := 1) w1 (by omega) (by omega)
      simp (disch := omega) only [toInt64SS_D hf hs, toInt64S_D hf hx, e1, e2, Option.bind_some, eqSquare_D hf w1, eqInt64SS_D hf hs, eqInt64S_D hf hx, decide_true, Bool.and_true, Bool.not_true, bif_false, m1, m1', m2, m3, bif_df, bif_nt]
end Go.Proofs.Ytakfkiahhfdjfaa

