/-
  FewestBreaks: what program and reference compute, and the law. Plain Lean, no program, no condition.
-/
import Derived.Test.YtdafmafigcljkaaDFa
import Derived.Test.YtdafmafigcljkaaDFc
import Derived.Test.YtdafmafigcljkaaPuFB
namespace Go.Proofs.Ytdafmafigcljkaa
open Go Am
set_option linter.unusedVariables false
set_option linter.unusedSimpArgs false

/-! breaks, and their sum -/
theorem iBreaks_D {fu : Nat} (hf : Big fu) {n : Int} (hn : 0 ≤ n ∧ n ≤ 14) {T : List (List Int)} (hT : ∀ i, i < T.length → (rw_ T i).length = n.toNat) (hl : T.length ≤ 40) :
    ∃ xs, D_impl_breaks fu n T = some xs ∧ (xs.length = n.toNat ∧ (∀ x ∈ xs, 0 ≤ x) ∧ xs.sum = cs (rw_ T) n.toNat T.length) := by
  unfold Big at hf
  unfold D_impl_breaks
  rw [chk_and (by omega) (by omega)]
  have h0 : (List.replicate n.toNat (0 : Int)).sum = 0 := by simp
  have key : ∃ r, loopF (D_impl_breaks_s0 fu n T) fu (List.replicate n.toNat 0, 1) = some r ∧ (r.length = n.toNat ∧ (∀ x ∈ r, 0 ≤ x) ∧ r.sum = cs (rw_ T) n.toNat T.length) := by
    refine loop_inv (fun k (s : List Int × Int) => s.2 = (k : Int) + 1 ∧ s.1.length = n.toNat ∧ (∀ x ∈ s.1, 0 ≤ x) ∧ s.1.sum = (cs (rw_ T) n.toNat (k + 1) : Nat)) _ (T.length - 1) (by omega) ?_ ?_ ⟨rfl, by simp, fun x hx => by have := List.eq_of_mem_replicate hx; omega, by rw [h0]; rfl⟩
    · rintro k ⟨ys, x⟩ hk ⟨rfl, h1, h2, h3⟩
      dsimp only at h1 h2 h3
      have hc := cs_le (rw_ T) n.toNat (k + 1)
      have hc2 : n.toNat * (k + 1) ≤ 14 * 40 := Nat.mul_le_mul (by omega) (by omega)
      have e1 : ((k : Int) + 1).toNat = k + 1 := by omega
      have e2 : ((k : Int) + 1 - 1).toNat = k := by omega
      have hr := hT (k + 1) (by omega)
      have hr' := hT k (by omega)
      obtain ⟨zs, g1, g2, g3, g4⟩ := brk_loop (fu := fu) (N := n.toNat) (step := D_impl_breaks_s1 fu n T ((k : Int) + 1)) (u := rw_ T k) (v := rw_ T (k + 1)) (by omega) (by
        intro a ha xs hxl hx0 hx1
        unfold D_impl_breaks_s1
        simp (disch := omega) only [e1, e2, hr, hr', bif_dt, chk_inR, chk_in64, Int.toNat_natCast]
        by_cases q1 : 0 ≤ rd (rw_ T (k + 1)) a
        · rw [bif_dt q1, Option.bind_some]
          by_cases q2 : rd (rw_ T (k + 1)) a = rd (rw_ T k) a
          · rw [bif_dt q2, if_pos (by unfold qb; rw [decide_eq_true q1, decide_eq_true q2]; rfl)]
          · rw [bif_df q2, if_neg (by unfold qb; rw [decide_eq_false q2]; simp)]
        · rw [bif_df q1, Option.bind_some, if_neg (by unfold qb; rw [decide_eq_false q1]; simp)]; rfl) (by
        intro xs
        unfold D_impl_breaks_s1
        simp (disch := omega) only [e1, hr, bif_df]) h1 h2 (by omega) (by omega)
      refine ⟨(zs, (k : Int) + 1 + 1), ?_, ?_⟩
      · unfold D_impl_breaks_s0
        dsimp only
        rw [bif_dt (by omega), chk_inR (by omega) (by omega), g1, Option.bind_some, chk_in64 (by omega) (by omega)]
      · refine ⟨by push_cast; rfl, g2, g3, ?_⟩
        rw [g4, h3]
        show _ = ((cs (rw_ T) n.toNat (k + 1) + if k + 1 = 0 then 0 else bc (rw_ T (k + 1 - 1)) (rw_ T (k + 1)) n.toNat : Nat) : Int)
        rw [if_neg (by omega), Nat.add_sub_cancel]; push_cast; rfl
    · rintro ⟨ys, x⟩ ⟨rfl, h1, h2, h3⟩
      dsimp only at h1 h2 h3
      refine ⟨ys, ?_, h1, h2, ?_⟩
      · unfold D_impl_breaks_s0
        dsimp only
        rw [bif_df (by omega)]
      · rw [h3]
        by_cases h : T.length = 0
        · rw [h]; rfl
        · rw [show T.length - 1 + 1 = T.length by omega]
  obtain ⟨r, h1, h2⟩ := key
  exact ⟨r, by rw [h1, Option.bind_some], h2⟩
theorem sBreaks_D {fu : Nat} (hf : Big fu) {n : Int} (hn : 0 ≤ n ∧ n ≤ 14) {u v : List Int} (hu : u.length = n.toNat) (hv : v.length = n.toNat) :
    ∃ xs, D_spec_l05Breaks fu n [u, v] = some xs ∧ (xs.length = n.toNat ∧ (∀ x ∈ xs, 0 ≤ x) ∧ xs.sum = bc u v n.toNat) := by
  unfold Big at hf
  unfold D_spec_l05Breaks
  rw [chk_and (by omega) (by omega)]
  have h0 : (List.replicate n.toNat (0 : Int)).sum = 0 := by simp
  have hb := bc_le u v n.toNat
  have hr : (rw_ [u, v] 1).length = n.toNat := hv
  have hr' : (rw_ [u, v] 0).length = n.toNat := hu
  have hl : [u, v].length = 2 := rfl
  obtain ⟨zs, g1, g2, g3, g4⟩ := brk_loop (fu := fu) (N := n.toNat) (step := D_spec_l05Breaks_s1 fu n [u, v] 1) (u := u) (v := v) (by omega) (by
    intro a ha xs hxl hx0 hx1
    unfold D_spec_l05Breaks_s1
    simp (disch := omega) only [show (1 : Int).toNat = 1 from rfl, show ((1 : Int) - 1).toNat = 0 from rfl, hr, hr', hl, bif_dt, chk_inR, chk_in64, Int.toNat_natCast]
    show (Option.bind (bif decide (0 ≤ rd v a) then some (decide (rd v a = rd u a)) else some false) _) = _
    by_cases q1 : 0 ≤ rd v a
    · rw [bif_dt q1, Option.bind_some]
      by_cases q2 : rd v a = rd u a
      · rw [bif_dt q2, if_pos (by unfold qb; rw [decide_eq_true q1, decide_eq_true q2]; rfl)]
      · rw [bif_df q2, if_neg (by unfold qb; rw [decide_eq_false q2]; simp)]
    · rw [bif_df q1, Option.bind_some, if_neg (by unfold qb; rw [decide_eq_false q1]; simp)]; rfl) (by
    intro xs
    unfold D_spec_l05Breaks_s1
    simp (disch := omega) only [bif_df]) (xs := List.replicate n.toNat 0) (by simp) (fun x hx => by have := List.eq_of_mem_replicate hx; omega) (by omega) (by omega)
  refine ⟨zs, ?_, g2, g3, by rw [g4, h0]; omega⟩
  rw [loop_seq (fun k => if k = 0 then (List.replicate n.toNat 0, 1) else (zs, 2)) 1 zs (by omega) ?_ ?_ (by rw [if_pos rfl]), Option.bind_some]
  · intro k hk
    have : k = 0 := by omega
    subst this
    rw [if_pos rfl, if_neg (by omega)]
    unfold D_spec_l05Breaks_s0
    dsimp only
    rw [bif_dt (by rw [hl]; omega), g1, Option.bind_some, chk_in64 (by omega) (by omega)]; rfl
  · rw [if_neg (by omega)]
    unfold D_spec_l05Breaks_s0
    dsimp only
    rw [bif_df (by rw [hl]; omega)]
theorem iTotal_D {fu : Nat} (hf : Big fu) {xs : List Int} (hl : xs.length ≤ 40) (h0 : ∀ x ∈ xs, 0 ≤ x) (h1 : xs.sum ≤ 50000) : D_impl_total fu xs = some xs.sum := by
  unfold Big at hf
  unfold D_impl_total
  rw [loop_seq (fun k => ((xs.take k).sum, (k : Int))) xs.length xs.sum (by omega) ?_ ?_ (s := (0, 0)) rfl, Option.bind_some]
  · intro k hk
    have a1 := sum_take_le h0 k
    have a2 := sum_take_le h0 (k + 1)
    have a3 := sum_take hk
    unfold D_impl_total_s0
    simp (disch := omega) only [bif_dt, chk_inR, chk_in64, Int.toNat_natCast, ← a3]; rfl
  · unfold D_impl_total_s0
    simp (disch := omega) only [bif_df, List.take_length]
theorem sTotal_D {fu : Nat} (hf : Big fu) {xs : List Int} {c : Int} (hc : 0 ≤ c ∧ c ≤ 50000) (hl : xs.length ≤ 40) (h0 : ∀ x ∈ xs, 0 ≤ x) (h1 : xs.sum ≤ 50000) : loopF (D_spec_FewestBreaks_s4 fu xs) fu (c, 0) = some (c + xs.sum) := by
  unfold Big at hf
  rw [loop_seq (fun k => (c + (xs.take k).sum, (k : Int))) xs.length (c + xs.sum) (by omega) ?_ ?_ (s := (c, 0)) (by simp)]
  · intro k hk
    have a1 := sum_take_le h0 k
    have a2 := sum_take_le h0 (k + 1)
    have a3 := sum_take hk
    unfold D_spec_FewestBreaks_s4
    simp (disch := omega) only [bif_dt, chk_inR, chk_in64, Int.toNat_natCast]
    rw [a3, Int.add_assoc]; rfl
  · unfold D_spec_FewestBreaks_s4
    simp (disch := omega) only [bif_df, List.take_length]

/-! rows of a round -/
def sRow (N : Nat) (r : List Int) (k : Nat) : List Int := rowX N r (fun j => 1 - bt k j)
def zRow (r : List Int) (a : Nat) : Int := if rd r a = (a : Int) then -1 else 0
theorem range_app' {α : Type} (f : Nat → α) (k : Nat) : (List.range k).map f ++ [f k] = (List.range (k + 1)).map f := by rw [List.range_succ, List.map_append]; rfl
theorem rows_D {fu : Nat} (hf : Big fu) {n : Int} (hn : 0 ≤ n ∧ n ≤ 14) {r : List Int} (hr : rndOk n.toNat r) : D_spec_l05Rows fu n r = some ((List.range (2 ^ idx r n.toNat)).map (sRow n.toNat r)) := by
  have hf' := hf
  unfold Big at hf
  have hp := idx_le r n.toNat
  have h2 : 2 ^ idx r n.toNat ≤ 2 ^ 14 := Nat.pow_le_pow_right (by omega) (by omega)
  have h3 : (2 : Nat) ^ 14 = 16384 := rfl
  unfold D_spec_l05Rows
  rw [l01Pairs_D hf' hn r, Option.bind_some]
  have hpl : (prs r n.toNat).length = idx r n.toNat := rfl
  rw [loop_seq (fun k => ((List.range k).map (sRow n.toNat r), (k : Int))) (2 ^ idx r n.toNat) ((List.range (2 ^ idx r n.toNat)).map (sRow n.toNat r)) (by omega) ?_ ?_ (s := ([], 0)) rfl, Option.bind_some]
  · intro k hk
    unfold D_spec_l05Rows_s0
    dsimp only
    rw [hpl, wrap_small (by omega), ishl_one (by omega), chk_t (by omega), bif_dt (by omega), chk_and (by omega) (by omega)]
    rw [loop_seq (fun a => (part (zRow r) n.toNat a, (a : Int))) n.toNat ((List.range n.toNat).map (zRow r)) (by omega) ?_ ?_ (s := (List.replicate n.toNat 0, 0)) (by rw [part_zero]; rfl), Option.bind_some]
    · rw [loop_seq (fun j => (rowK n.toNat r (fun j => 1 - bt k j) (rd ((List.range n.toNat).map (zRow r))) j, (j : Int))) (idx r n.toNat) (sRow n.toNat r k) (by omega) ?_ ?_ (s := ((List.range n.toNat).map (zRow r), 0)) (by rw [rowK_zero (by simp)]; rfl), Option.bind_some]
      · rw [chk_le (by simp; omega), chk_in64 (by omega) (by omega), range_app']; rfl
      · intro j hj
        obtain ⟨a, a1, a2, a3, a4⟩ := prs_at hj
        obtain ⟨b0, b1, b2⟩ := hr a a1
        have e0 : rd [(a : Int), rd r a] 0 = a := rfl
        have e1 : rd [(a : Int), rd r a] 1 = rd r a := rfl
        have e2 : ([(a : Int), rd r a]).length = 2 := rfl
        have hbt := bt_le k j
        rw [← rowK_step (x := fun j => 1 - bt k j) hr a1 a2 a3]
        unfold D_spec_l05Rows_s2
        dsimp only
        rw [hpl, wrap_small (by omega), Int.toNat_natCast, a4, iand_bt (by omega) (by omega), e2]
        generalize hl : rowK n.toNat r (fun j => 1 - bt k j) (rd ((List.range n.toNat).map (zRow r))) j = l
        have hll : l.length = n.toNat := by rw [← hl, rowK_len]
        have hla : rd l a = 0 := by
          rw [← hl, rowK_rd a1, if_pos a2, if_neg (by omega), rd_map a1]; unfold zRow; rw [if_neg (by omega)]
        have hlb : rd l (rd r a).toNat = 0 := by
          rw [← hl, rowK_rd (by omega), b2, if_neg (by omega), if_pos (by omega), Int.toNat_natCast, if_neg (by omega), rd_map (by omega)]
          unfold zRow; rw [b2, if_neg (by omega)]
        rcases (show bt k j = 0 ∨ bt k j = 1 by omega) with h | h
        · rw [h, show (0 : Int).toNat = 0 from rfl, e0, show (1 : Int) - 0 = 1 from rfl, show (1 : Int) - 1 = 0 from rfl]
          have : (l.set a 1).set (rd r a).toNat 0 = l.set a 1 := by
            have h5 : rd (l.set a 1) (rd r a).toNat = 0 := by rw [rd_set (by omega), if_neg (by omega), hlb]
            have h6 := set_rd (l := l.set a 1) (i := (rd r a).toNat) (by rw [List.length_set]; omega)
            rwa [h5] at h6
          rw [this]
          simp (disch := omega) only [bif_dt, chk_inR, chk_t, chk_in64, Int.toNat_natCast]; rfl
        · rw [h, show (1 : Int).toNat = 1 from rfl, e1, show (1 : Int) - 1 = 0 from rfl, show (1 : Int) - 0 = 1 from rfl]
          have : l.set a 0 = l := by
            have h6 := set_rd (l := l) (i := a) (by omega)
            rwa [hla] at h6
          rw [this]
          simp (disch := omega) only [bif_dt, chk_inR, chk_t, chk_in64, Int.toNat_natCast]; rfl
      · unfold D_spec_l05Rows_s2
        dsimp only
        rw [bif_df (by rw [hpl]; omega)]
        rw [rowK_full hr (Nat.le_refl _) (fun a ha h => by rw [rd_map ha]; unfold zRow; rw [if_pos h]) (fun _ _ => rfl)]
        rfl
    · intro a ha
      unfold D_spec_l05Rows_s1
      dsimp only
      rw [bif_dt (by omega), chk_inR (by omega) (by omega), Int.toNat_natCast]
      by_cases e : rd r a = (a : Int)
      · have h1 : zRow r a = -1 := by unfold zRow; rw [if_pos e]
        rw [bif_dt e, chk_inR (by omega) (by omega), chk_in64 (by omega) (by omega), ← part_set ha, h1]; rfl
      · have h1 : zRow r a = 0 := by unfold zRow; rw [if_neg e]
        rw [bif_df e, chk_in64 (by omega) (by omega), ← part_skip h1]; rfl
    · unfold D_spec_l05Rows_s1
      simp (disch := omega) only [bif_df, part_full]
  · unfold D_spec_l05Rows_s0
    dsimp only
    rw [hpl, wrap_small (by omega), ishl_one (by omega), chk_t (by omega), bif_df (by omega)]
end Go.Proofs.Ytdafmafigcljkaa

