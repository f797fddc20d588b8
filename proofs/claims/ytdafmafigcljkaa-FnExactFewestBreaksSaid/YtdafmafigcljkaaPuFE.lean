/-
  FewestBreaks: what the reference computes is what the program computes, and the law. Plain Lean, no program, no condition.
-/
import Derived.Test.YtdafmafigcljkaaDFa
import Derived.Test.YtdafmafigcljkaaDFd
import Derived.Test.YtdafmafigcljkaaPuFD
namespace Go.Proofs.Ytdafmafigcljkaa
open Go Am
set_option linter.unusedVariables false
set_option linter.unusedSimpArgs false

def cnt (N : Nat) (rs : List (List Int)) : Nat → Nat
  | 0 => 0
  | i + 1 => 2 ^ idx (rw_ rs i) N
def Fv (N : Nat) (rs : List (List Int)) : Nat → Nat → Int
  | 0, _ => 0
  | i + 1, k => minTo (fun k' => Fv N rs i k' + (bc (sRow N (rw_ rs (i - 1)) k') (sRow N (rw_ rs i) k) N : Nat)) (cnt N rs i)
theorem Fv_le (N : Nat) (rs : List (List Int)) : ∀ i k, 0 ≤ Fv N rs i k ∧ Fv N rs i k ≤ ((N * i : Nat) : Int)
  | 0, k => ⟨Int.le_refl _, Int.le_refl _⟩
  | i + 1, k => by
    refine minTo_le (by omega) fun k' _ => ?_
    have h1 := Fv_le N rs i k'
    have h2 := bc_le (sRow N (rw_ rs (i - 1)) k') (sRow N (rw_ rs i) k) N
    rw [Nat.mul_add, Nat.mul_one]; omega
theorem cnt_le {N : Nat} {rs : List (List Int)} (hN : N ≤ 14) : ∀ i, cnt N rs i ≤ 16384
  | 0 => Nat.zero_le _
  | i + 1 => by
    have := idx_le (rw_ rs i) N
    have h2 : 2 ^ idx (rw_ rs i) N ≤ 2 ^ 14 := Nat.pow_le_pow_right (by omega) (by omega)
    exact h2
def RL (N : Nat) (rs : List (List Int)) (i : Nat) : List (List Int) := (List.range (cnt N rs i)).map (sRow N (rw_ rs (i - 1)))
def XL (N : Nat) (rs : List (List Int)) (i : Nat) : List Int := (List.range (cnt N rs i)).map (Fv N rs i)
theorem RL_len (N : Nat) (rs : List (List Int)) (i : Nat) : (RL N rs i).length = cnt N rs i := by simp [RL]
theorem XL_len (N : Nat) (rs : List (List Int)) (i : Nat) : (XL N rs i).length = cnt N rs i := by simp [XL]
theorem sFv_D {fu : Nat} (hf : Big fu) {n : Int} (hn : 2 ≤ n ∧ n ≤ 14) {rs : List (List Int)} (hl : rs.length ≤ 40) (hr : ∀ i, i < rs.length → rndOk n.toNat (rw_ rs i)) :
    loopF (D_spec_FewestBreaks_s1 fu n rs) fu ([], [], 0) = some (XL n.toNat rs rs.length) := by
  have hf' := hf
  unfold Big at hf
  rw [loop_seq (fun i => (RL n.toNat rs i, XL n.toNat rs i, (i : Int))) rs.length (XL n.toNat rs rs.length) (by omega) ?_ ?_ (s := ([], [], 0)) rfl]
  · intro i hi
    have c0 := cnt_le (N := n.toNat) (rs := rs) (by omega) i
    have c1 := cnt_le (N := n.toNat) (rs := rs) (by omega) (i + 1)
    have hrl := RL_len n.toNat rs i
    have hxl := XL_len n.toNat rs i
    have hrl1 := RL_len n.toNat rs (i + 1)
    have m1 : n.toNat * i ≤ 14 * 40 := Nat.mul_le_mul (by omega) (by omega)
    have m2 : n.toNat * (i + 1) ≤ 14 * 40 := Nat.mul_le_mul (by omega) (by omega)
    have hrow : D_spec_l05Rows fu n (rw_ rs i) = some (RL n.toNat rs (i + 1)) := rows_D hf' ⟨by omega, by omega⟩ (hr i hi)
    unfold D_spec_FewestBreaks_s1
    dsimp only
    rw [bif_dt (by omega), chk_inR (by omega) (by omega), Int.toNat_natCast, hrow, Option.bind_some]
    rw [loop_seq (fun k => ((List.range k).map (Fv n.toNat rs (i + 1)), (k : Int))) (cnt n.toNat rs (i + 1)) (XL n.toNat rs (i + 1)) (by omega) ?_ ?_ (s := ([], 0)) rfl, Option.bind_some, chk_in64 (by omega) (by omega)]
    · rfl
    · intro k hk
      have ek : rw_ (RL n.toNat rs (i + 1)) k = sRow n.toNat (rw_ rs i) k := by unfold RL; rw [rw_map hk, Nat.add_sub_cancel]
      unfold D_spec_FewestBreaks_s2
      dsimp only
      rw [bif_dt (by rw [hrl1]; omega)]
      rw [loop_seq (fun k' => (minTo (fun k' => Fv n.toNat rs i k' + (bc (sRow n.toNat (rw_ rs (i - 1)) k') (sRow n.toNat (rw_ rs i) k) n.toNat : Nat)) k', (k' : Int))) (cnt n.toNat rs i) (Fv n.toNat rs (i + 1) k) (by omega) ?_ ?_ (s := (0, 0)) rfl, Option.bind_some, chk_le (by simp; omega), chk_in64 (by omega) (by omega), range_app']
      · rfl
      · intro k' hk'
        have ek' : rw_ (RL n.toNat rs i) k' = sRow n.toNat (rw_ rs (i - 1)) k' := by unfold RL; rw [rw_map hk']
        have ex : rd (XL n.toNat rs i) k' = Fv n.toNat rs i k' := by unfold XL; rw [rd_map hk']
        have hF := Fv_le n.toNat rs i k'
        obtain ⟨xs, x1, x2, x3, x4⟩ := sBreaks_D hf' (n := n) ⟨by omega, by omega⟩ (u := sRow n.toNat (rw_ rs (i - 1)) k') (v := sRow n.toNat (rw_ rs i) k) (rowX_len ..) (rowX_len ..)
        have hb := bc_le (sRow n.toNat (rw_ rs (i - 1)) k') (sRow n.toNat (rw_ rs i) k) n.toNat
        unfold D_spec_FewestBreaks_s3
        dsimp only
        rw [bif_dt (by rw [hrl]; omega), chk_inR (by omega) (by rw [hxl]; omega), chk_inR (by omega) (by rw [hrl]; omega), chk_inR (by omega) (by rw [hrl1]; omega), Int.toNat_natCast, Int.toNat_natCast, ek, ek', ex, x1, Option.bind_some, sTotal_D hf' ⟨by omega, by omega⟩ (by omega) x3 (by omega), Option.bind_some, x4]
        generalize hcf : (fun k' => Fv n.toNat rs i k' + (bc (sRow n.toNat (rw_ rs (i - 1)) k') (sRow n.toNat (rw_ rs i) k) n.toNat : Nat)) = cf
        have hcv : Fv n.toNat rs i k' + (bc (sRow n.toNat (rw_ rs (i - 1)) k') (sRow n.toNat (rw_ rs i) k) n.toNat : Nat) = cf k' := by rw [← hcf]
        rw [hcv]
        show _ = some (Lo.go ((if k' = 0 ∨ cf k' < minTo cf k' then cf k' else minTo cf k'), ((k' + 1 : Nat) : Int)))
        by_cases h0 : k' = 0
        · rw [if_pos (.inl h0), decide_eq_true (by omega), Bool.true_or, bif_true, chk_in64 (by omega) (by omega)]; rfl
        · rw [decide_eq_false (by omega), Bool.false_or]
          by_cases h1 : cf k' < minTo cf k'
          · rw [bif_dt h1, if_pos (.inr h1), chk_in64 (by omega) (by omega)]; rfl
          · rw [bif_df h1, if_neg (by omega), chk_in64 (by omega) (by omega)]; rfl
      · unfold D_spec_FewestBreaks_s3
        dsimp only
        rw [bif_df (by rw [hrl]; omega)]; rfl
    · unfold D_spec_FewestBreaks_s2
      dsimp only
      rw [bif_df (by rw [hrl1]; omega)]; rfl
  · unfold D_spec_FewestBreaks_s1
    dsimp only
    rw [bif_df (by omega)]
theorem sLeast_D {fu : Nat} (hf : Big fu) {n : Int} (hn : 2 ≤ n ∧ n ≤ 14) {rs : List (List Int)} (i : Nat) : loopF (D_spec_FewestBreaks_s5 fu (XL n.toNat rs i)) fu (0, 0) = some (minTo (Fv n.toNat rs i) (cnt n.toNat rs i)) := by
  unfold Big at hf
  have c0 := cnt_le (N := n.toNat) (rs := rs) (by omega) i
  have hxl := XL_len n.toNat rs i
  rw [loop_seq (fun k => (minTo (Fv n.toNat rs i) k, (k : Int))) (cnt n.toNat rs i) (minTo (Fv n.toNat rs i) (cnt n.toNat rs i)) (by omega) ?_ ?_ (s := (0, 0)) rfl]
  · intro k hk
    have ex : rd (XL n.toNat rs i) k = Fv n.toNat rs i k := by unfold XL; rw [rd_map hk]
    unfold D_spec_FewestBreaks_s5
    dsimp only
    rw [hxl, bif_dt (by omega), chk_inR (by omega) (by omega), Int.toNat_natCast, ex]
    show _ = some (Lo.go ((if k = 0 ∨ Fv n.toNat rs i k < minTo (Fv n.toNat rs i) k then Fv n.toNat rs i k else minTo (Fv n.toNat rs i) k), ((k + 1 : Nat) : Int)))
    by_cases h0 : k = 0
    · rw [if_pos (.inl h0), bif_dt (by omega), Option.bind_some, bif_true, chk_inR (by omega) (by omega), chk_in64 (by omega) (by omega)]; rfl
    · rw [bif_df (by omega), Option.bind_some]
      by_cases h1 : Fv n.toNat rs i k < minTo (Fv n.toNat rs i) k
      · rw [bif_dt h1, if_pos (.inr h1), chk_inR (by omega) (by omega), chk_in64 (by omega) (by omega)]; rfl
      · rw [bif_df h1, if_neg (by omega), chk_in64 (by omega) (by omega)]; rfl
  · unfold D_spec_FewestBreaks_s5
    dsimp only
    rw [hxl, bif_df (by omega)]

/-! one choice for each round -/
def Val (N : Nat) (rs : List (List Int)) (ks : Nat → Nat) (i : Nat) : Prop := ∀ j, j < i → ks j < 2 ^ idx (rw_ rs j) N
def cC (N : Nat) (rs : List (List Int)) (ks : Nat → Nat) (i : Nat) : Nat := cs (fun j => sRow N (rw_ rs j) (ks j)) N i
theorem cC_succ (N : Nat) (rs : List (List Int)) (ks : Nat → Nat) (i : Nat) : cC N rs ks (i + 2) = cC N rs ks (i + 1) + bc (sRow N (rw_ rs i) (ks i)) (sRow N (rw_ rs (i + 1)) (ks (i + 1))) N := by
  show cs (fun j => sRow N (rw_ rs j) (ks j)) N (i + 1) + (if i + 1 = 0 then 0 else bc (sRow N (rw_ rs (i + 1 - 1)) (ks (i + 1 - 1))) (sRow N (rw_ rs (i + 1)) (ks (i + 1))) N) = _
  rw [if_neg (by omega)]; rfl
theorem cC_one (N : Nat) (rs : List (List Int)) (ks : Nat → Nat) : cC N rs ks 1 = 0 := rfl
theorem Fv_low (N : Nat) (rs : List (List Int)) (ks : Nat → Nat) : ∀ i, Val N rs ks (i + 1) → Fv N rs (i + 1) (ks i) ≤ (cC N rs ks (i + 1) : Int)
  | 0, _ => by rw [cC_one]; exact Int.le_refl _
  | i + 1, h => by
    have ih := Fv_low N rs ks i fun j hj => h j (by omega)
    have hk : ks i < cnt N rs (i + 1) := h i (by omega)
    have h1 := (minTo_spec (fun k' => Fv N rs (i + 1) k' + (bc (sRow N (rw_ rs (i + 1 - 1)) k') (sRow N (rw_ rs (i + 1)) (ks (i + 1))) N : Nat)) (cnt N rs (i + 1)) (by omega)).1 (ks i) hk
    rw [cC_succ]
    show minTo (fun k' => Fv N rs (i + 1) k' + (bc (sRow N (rw_ rs (i + 1 - 1)) k') (sRow N (rw_ rs (i + 1)) (ks (i + 1))) N : Nat)) (cnt N rs (i + 1)) ≤ _
    simp only [Nat.add_sub_cancel] at h1 ⊢
    push_cast
    omega
theorem Fv_att (N : Nat) (rs : List (List Int)) : ∀ i k, k < 2 ^ idx (rw_ rs i) N → ∃ ks, Val N rs ks (i + 1) ∧ ks i = k ∧ Fv N rs (i + 1) k = (cC N rs ks (i + 1) : Int)
  | 0, k, hk => ⟨fun _ => k, fun j hj => by have : j = 0 := by omega
                                            subst this; exact hk, rfl, rfl⟩
  | i + 1, k, hk => by
    have hpos : 0 < cnt N rs (i + 1) := Nat.pow_pos (by omega)
    obtain ⟨k', h1, h2⟩ := (minTo_spec (fun k' => Fv N rs (i + 1) k' + (bc (sRow N (rw_ rs (i + 1 - 1)) k') (sRow N (rw_ rs (i + 1)) k) N : Nat)) (cnt N rs (i + 1)) hpos).2
    obtain ⟨ks, g1, g2, g3⟩ := Fv_att N rs i k' h1
    refine ⟨fun j => if j = i + 1 then k else ks j, fun j hj => ?_, if_pos rfl, ?_⟩
    · dsimp only
      by_cases h : j = i + 1
      · rw [if_pos h, h]; exact hk
      · rw [if_neg h]; exact g1 j (by omega)
    · rw [cC_succ]
      have e : cC N rs (fun j => if j = i + 1 then k else ks j) (i + 1) = cC N rs ks (i + 1) := cs_congr fun j hj => by
        dsimp only; rw [if_neg (by omega)]
      rw [e, if_neg (by omega), if_pos rfl, g2]
      show minTo (fun k' => Fv N rs (i + 1) k' + (bc (sRow N (rw_ rs (i + 1 - 1)) k') (sRow N (rw_ rs (i + 1)) k) N : Nat)) (cnt N rs (i + 1)) = _
      rw [h2, g3]; push_cast; rfl
theorem link {N : Nat} {rs : List (List Int)} {b : Nat} {ks : Nat → Nat} (hr : ∀ i, i < rs.length → rndOk N (rw_ rs i)) (h : ∀ i, i < rs.length → ∀ j, j < idx (rw_ rs i) N → Nat.testBit b (offs N rs i + j) = !Nat.testBit (ks i) j) : cB N rs b = (cC N rs ks rs.length : Int) := by
  unfold cB cC
  rw [cs_congr (R := rX N rs b) (R' := fun j => sRow N (rw_ rs j) (ks j)) fun i hi => ?_]
  unfold rX sRow
  refine rowX_congr (hr i hi) fun j hj => ?_
  unfold bt
  rw [h i hi j hj]
  cases Nat.testBit (ks i) j <;> rfl
theorem bits_of {N : Nat} {rs : List (List Int)} {ks : Nat → Nat} : ∀ m, Val N rs ks m → ∃ b, b < 2 ^ offs N rs m ∧ ∀ i, i < m → ∀ j, j < idx (rw_ rs i) N → Nat.testBit b (offs N rs i + j) = !Nat.testBit (ks i) j
  | 0, _ => ⟨0, Nat.pow_pos (by omega), fun i hi => absurd hi (Nat.not_lt_zero _)⟩
  | m + 1, h => by
    obtain ⟨b, h1, h2⟩ := bits_of m fun j hj => h j (by omega)
    have hk := h m (by omega)
    refine ⟨2 ^ offs N rs m * (2 ^ idx (rw_ rs m) N - (ks m + 1)) + b, ?_, fun i hi j hj => ?_⟩
    · have e : 2 ^ offs N rs (m + 1) = 2 ^ offs N rs m * 2 ^ idx (rw_ rs m) N := Nat.pow_add ..
      have h3 : 2 ^ offs N rs m * (2 ^ idx (rw_ rs m) N - (ks m + 1) + 1) ≤ 2 ^ offs N rs m * 2 ^ idx (rw_ rs m) N := Nat.mul_le_mul_left _ (by omega)
      rw [e]
      rw [Nat.mul_add, Nat.mul_one] at h3
      omega
    · rw [Nat.testBit_two_pow_mul_add _ h1]
      by_cases hm : i = m
      · subst hm
        rw [if_neg (by omega), Nat.add_sub_cancel_left, Nat.testBit_two_pow_sub_succ hk, decide_eq_true hj, Bool.true_and]
      · have h4 : offs N rs (i + 1) ≤ offs N rs m := offs_le (by omega)
        have h5 : offs N rs (i + 1) = offs N rs i + idx (rw_ rs i) N := rfl
        rw [if_pos (by omega)]
        exact h2 i (by omega) j hj
def ksOf (N : Nat) (rs : List (List Int)) (b i : Nat) : Nat := 2 ^ idx (rw_ rs i) N - (b / 2 ^ offs N rs i % 2 ^ idx (rw_ rs i) N + 1)
theorem ksOf_lt (N : Nat) (rs : List (List Int)) (b i : Nat) : ksOf N rs b i < 2 ^ idx (rw_ rs i) N := by
  have : 0 < 2 ^ idx (rw_ rs i) N := Nat.pow_pos (by omega)
  unfold ksOf; omega
theorem ksOf_bit (N : Nat) (rs : List (List Int)) (b i j : Nat) (hj : j < idx (rw_ rs i) N) : Nat.testBit b (offs N rs i + j) = !Nat.testBit (ksOf N rs b i) j := by
  have : 0 < 2 ^ idx (rw_ rs i) N := Nat.pow_pos (by omega)
  unfold ksOf
  rw [Nat.testBit_two_pow_sub_succ (Nat.mod_lt _ this), decide_eq_true hj, Bool.true_and, Nat.testBit_mod_two_pow, decide_eq_true hj, Bool.true_and, Nat.testBit_div_two_pow, Bool.not_not, Nat.add_comm]
theorem least_eq {N : Nat} {rs : List (List Int)} (hr : ∀ i, i < rs.length → rndOk N (rw_ rs i)) : minTo (Fv N rs rs.length) (cnt N rs rs.length) = minTo (cB N rs) (2 ^ offs N rs rs.length) := by
  cases hL : rs.length with
  | zero =>
    show 0 = minTo (cB N rs) (2 ^ 0)
    show 0 = (if 0 = 0 ∨ cB N rs 0 < minTo (cB N rs) 0 then cB N rs 0 else minTo (cB N rs) 0)
    rw [if_pos (.inl rfl)]; unfold cB; rw [hL]; rfl
  | succ m =>
    rw [← hL]
    have hpos : 0 < 2 ^ offs N rs rs.length := Nat.pow_pos (by omega)
    have hpos2 : 0 < cnt N rs rs.length := by rw [hL]; exact Nat.pow_pos (by omega)
    refine minTo_eq hpos2 hpos (fun k hk => ?_) fun b hb => ?_
    · rw [hL] at hk
      obtain ⟨ks, h1, h2, h3⟩ := Fv_att N rs m k hk
      obtain ⟨b, b1, b2⟩ := bits_of (m + 1) h1
      refine ⟨b, by rw [hL]; exact b1, ?_⟩
      rw [link (ks := ks) hr (fun i hi j hj => b2 i (by omega) j hj), hL, h3]
      exact Int.le_refl _
    · refine ⟨ksOf N rs b m, by rw [hL]; exact ksOf_lt .., ?_⟩
      rw [link (ks := ksOf N rs b) hr (fun i hi j hj => ksOf_bit N rs b i j hj), hL]
      exact Fv_low N rs (ksOf N rs b) m fun j _ => ksOf_lt ..
theorem sFew_D {fu : Nat} (hf : Big fu) (n : Int) {rs : List (List Int)} (hA : All 14 rs) (hl : rs.length ≤ 4294967296) : D_spec_FewestBreaks fu n rs = some (fewest n rs) := by
  have hf' := hf
  unfold Big at hf
  unfold D_spec_FewestBreaks fewest
  rw [l01Is_D hf' n hA hl, Option.bind_some]
  cases h : isSch n rs with
  | false => rfl
  | true =>
    obtain ⟨hn, h40⟩ := isSch_of h
    rw [if_pos rfl, Bool.not_true, bif_false]
    rw [loop_seq (fun i => ((offs n.toNat rs i : Int), (i : Int))) rs.length (offs n.toNat rs rs.length : Int) (by omega) ?_ ?_ (s := (0, 0)) rfl, Option.bind_some]
    · by_cases hK : 15 < offs n.toNat rs rs.length
      · rw [bif_dt (by omega), if_pos hK]
      · rw [bif_df (by omega), if_neg hK, sFv_D hf' hn h40 (isSch_rnd h), Option.bind_some, sLeast_D hf' hn, Option.bind_some, least_eq (isSch_rnd h)]
    · intro i hi
      have b1 := offs_bound n.toNat rs i
      have b2 : n.toNat * i ≤ 14 * 40 := Nat.mul_le_mul (by omega) (by omega)
      have b4 := idx_le (rw_ rs i) n.toNat
      have b5 : (prs (rw_ rs i) n.toNat).length = idx (rw_ rs i) n.toNat := rfl
      unfold D_spec_FewestBreaks_s0
      dsimp only
      rw [bif_dt (by omega), chk_inR (by omega) (by omega), Int.toNat_natCast, l01Pairs_D hf' ⟨by omega, by omega⟩, Option.bind_some, b5, chk_in64 (by omega) (by omega), chk_in64 (by omega) (by omega)]
      rfl
    · unfold D_spec_FewestBreaks_s0
      dsimp only
      rw [bif_df (by omega)]
theorem fewest_law {fu : Nat} (hf : Big fu) (n : Int) {rs : List (List Int)} (hA : All 14 rs) (hl : rs.length ≤ 9223372036854775807) : D_laws_FnExactFewestBreaks fu n rs = some true := by
  unfold D_laws_FnExactFewestBreaks
  rw [szSchedule_D (by omega) (by omega) hl, Option.bind_some]
  by_cases h : szv 1048576 rs.length < 0
  · rw [bif_dt h]
  · have h1 := szv_pos h
    rw [bif_df h]
    simp (disch := omega) only [toSchedule_D hf hA, sFew_D hf n hA, iFew_D hf n hA, Option.bind_some, eqSchedule_D hf hA hA, decide_true, Bool.not_true, Bool.or_false, Bool.and_self, bif_false, bif_true]
end Go.Proofs.Ytdafmafigcljkaa

