/-
  Numbers read out of texts. Plain Lean, no program, no condition.
-/
import Derived.Test.YtfiilgnebmidbaaDoorDH
import Derived.Test.YtfiilgnebmidbaaDoorDPa
import Derived.Lib.ParseIntBTie
import Derived.Test.YtfiilgnebmidbaaDoorPuSp
namespace Go.Proofs.YtfiilgnebmidbaaDoor
open Go Am
set_option linter.unusedVariables false
set_option linter.unusedSimpArgs false

theorem pow10_le {a b : Nat} (h : a ≤ b) : (10 : Int) ^ a ≤ 10 ^ b := by
  have := Nat.pow_le_pow_right (n := 10) (by decide) h
  have e : ∀ k : Nat, (10 : Int) ^ k = ((10 ^ k : Nat) : Int) := fun k => by simp
  rw [e, e]; omega
theorem dig_nat {k : Nat} (h : k < 10) : (UInt8.ofNat (48 + k)).toNat = 48 + k := by
  rw [UInt8.toNat_ofNat']; exact Nat.mod_eq_of_lt (by omega)
theorem dig_eq {x : UInt8} {k : Nat} (h : x.toNat = 48 + k) (hk : k < 10) : x = UInt8.ofNat (48 + k) := UInt8.toNat_inj.1 (by rw [h, dig_nat hk])
/-- digits read behind a number -/
def fd : List UInt8 → Int → Option Int
  | [], n => some n
  | x :: r, n => if 48 ≤ x.toNat ∧ x.toNat ≤ 57 then fd r (n * 10 + ((x.toNat : Int) - 48)) else none
def sNum (l : List UInt8) : Int := if l.length = 0 ∨ 9 < l.length ∨ (1 < l.length ∧ (l.getD 0 0).toNat = 48) then -1 else match fd l 0 with
  | some n => n
  | none => -1
theorem fd_ge : ∀ {l : List UInt8} {n v : Int}, 0 ≤ n → fd l n = some v → n * 10 ^ l.length ≤ v
  | [], n, v, h, e => by cases e; simp
  | x :: r, n, v, h, e => by
    unfold fd at e
    split at e
    · rename_i hx
      have := fd_ge (by omega) e
      rw [List.length_cons, Int.pow_succ]
      refine Int.le_trans ?_ this
      rw [Int.mul_comm (10 ^ r.length) 10, ← Int.mul_assoc]
      exact Int.mul_le_mul_of_nonneg_right (by omega) (Int.pow_nonneg (by decide))
    · cases e
theorem fd_loop {fu : Nat} {l : List UInt8} (h9 : l.length ≤ 9) : ∀ (m k : Nat) (n : Int) (g : Nat), k + m = l.length → m < g → 0 ≤ n → n < 10 ^ k → loopF (D_spec_l01Number_s0 fu (toB l)) g (n, (k : Int)) = some (match fd (l.drop k) n with | some v => .inl v | none => .inr (-1))
  | 0, k, n, g + 1, hk, hg, h0, h1 => by
    rw [List.drop_of_length_le (by omega)]
    refine loop_out ?_
    unfold D_spec_l01Number_s0; dsimp only
    rw [bif_df (by rw [toB_size]; omega)]; rfl
  | m + 1, k, n, g + 1, hk, hg, h0, h1 => by
    have hkl : k < l.length := by omega
    have hd : l.drop k = l.getD k 0 :: l.drop (k + 1) := by
      rw [List.drop_eq_getElem_cons hkl]; congr 1
      rw [List.getD_eq_getElem?_getD, List.getElem?_eq_getElem hkl]; rfl
    have hp : (10 : Int) ^ k ≤ 10 ^ 8 := pow10_le (by omega)
    have h8 : (10 : Int) ^ 8 = 100000000 := by decide
    have hb : (l.getD k 0).toNat < 256 := UInt8.toNat_lt _
    rw [hd]
    unfold fd
    by_cases hx : 48 ≤ (l.getD k 0).toNat ∧ (l.getD k 0).toNat ≤ 57
    · rw [if_pos hx, loop_go (s' := (n * 10 + (((l.getD k 0).toNat : Int) - 48), ((k + 1 : Nat) : Int)))]
      · refine fd_loop h9 m (k + 1) _ g (by omega) (by omega) (by omega) ?_
        rw [Int.pow_succ]; omega
      · unfold D_spec_l01Number_s0; dsimp only
        rw [bif_dt (by rw [toB_size]; omega), chk_inR (by omega) (by rw [toB_size]; omega), Int.toNat_natCast, sby_D, bif_df (by omega), chk_inR (by omega) (by rw [toB_size]; omega), Option.bind_some, decide_eq_false (by omega), bif_false, chk_in64 (by omega) (by omega), chk_inR (by omega) (by rw [toB_size]; omega), chk_and (by omega) (by omega), chk_in64 (by omega) (by omega), chk_in64 (by omega) (by omega), chk_in64 (by omega) (by omega)]; rfl
    · rw [if_neg hx]
      refine loop_out ?_
      unfold D_spec_l01Number_s0; dsimp only
      rw [bif_dt (by rw [toB_size]; omega), chk_inR (by omega) (by rw [toB_size]; omega), Int.toNat_natCast, sby_D]
      by_cases h2 : (l.getD k 0).toNat < 48
      · rw [bif_dt (by omega)]; rfl
      · rw [bif_df (by omega), chk_inR (by omega) (by rw [toB_size]; omega), Option.bind_some, decide_eq_true (by omega), bif_true]
  | 0, _, _, 0, _, hg, _, _ => absurd hg (Nat.not_lt_zero _)
  | _ + 1, _, _, 0, _, hg, _, _ => absurd hg (Nat.not_lt_zero _)
theorem l01Number_D {fu : Nat} (hf : Big fu) {l : List UInt8} (hl : l.length ≤ 2000000) : D_spec_l01Number fu (toB l) = some (sNum l) := by
  unfold Big at hf
  unfold D_spec_l01Number sNum
  by_cases h0 : l.length = 0
  · rw [bif_dt (by rw [toB_size]; omega), if_pos (.inl h0)]; rfl
  · rw [bif_df (by rw [toB_size]; omega)]
    by_cases h9 : 9 < l.length
    · rw [bif_dt (by rw [toB_size]; omega), if_pos (.inr (.inl h9))]; rfl
    · rw [bif_df (by rw [toB_size]; omega)]
      have key := fd_loop (fu := fu) (l := l) (by omega) l.length 0 0 fu (by omega) (by omega) (by omega) (by decide)
      rw [List.drop_zero] at key
      by_cases h1 : 1 < l.length
      · rw [bif_dt (by rw [toB_size]; omega), chk_inR (by omega) (by rw [toB_size]; omega), Option.bind_some, sby_D]
        by_cases hz : (l.getD 0 0).toNat = 48
        · rw [decide_eq_true (by omega), bif_true, if_pos (.inr (.inr ⟨h1, hz⟩))]
        · rw [decide_eq_false (by omega), bif_false, if_neg (by rintro (h | h | h); exact h0 h; exact h9 h; exact hz h.2)]
          show (loopF _ fu (0, ((0 : Nat) : Int))).bind _ = _
          rw [key]
          cases fd l 0 <;> rfl
      · rw [bif_df (by rw [toB_size]; omega), Option.bind_some, bif_false, if_neg (by rintro (h | h | h); exact h0 h; exact h9 h; exact h1 h.1)]
        show (loopF _ fu (0, ((0 : Nat) : Int))).bind _ = _
        rw [key]
        cases fd l 0 <;> rfl
theorem sNum_dec {v : Int} (h : 0 ≤ v ∧ v < 100) : sNum (dec v) = v := by
  by_cases h1 : v < 10
  · rw [dec_small ⟨h.1, h1⟩]
    unfold sNum
    have e := dig_nat (k := v.toNat) (by omega)
    rw [if_neg (by simp)]
    unfold fd fd
    rw [if_pos (by omega), e]
    show 0 * 10 + (((48 + v.toNat : Nat) : Int) - 48) = v
    omega
  · rw [dec_big ⟨by omega, h.2⟩, dec_small ⟨by omega, by omega⟩]
    have e1 := dig_nat (k := (v / 10).toNat) (by omega)
    have e2 := dig_nat (k := (v % 10).toNat) (by omega)
    unfold sNum
    rw [if_neg (by
      rintro (h | h | h)
      · simp at h
      · simp at h
      · have : (UInt8.ofNat (48 + (v / 10).toNat)).toNat = 48 := h.2
        omega)]
    show (match fd [UInt8.ofNat (48 + (v / 10).toNat), UInt8.ofNat (48 + (v % 10).toNat)] 0 with | some n => n | none => -1) = v
    unfold fd fd fd
    rw [if_pos (by omega), if_pos (by omega), e1, e2]
    show (0 * 10 + (((48 + (v / 10).toNat : Nat) : Int) - 48)) * 10 + (((48 + (v % 10).toNat : Nat) : Int) - 48) = v
    omega
theorem dec_sNum {l : List UInt8} {v : Int} (h : 0 ≤ v ∧ v < 100) (e : sNum l = v) : l = dec v := by
  unfold sNum at e
  split at e
  · omega
  · rename_i hc
    cases hf : fd l 0 with
    | none => rw [hf] at e; dsimp only at e; omega
    | some n =>
      rw [hf] at e
      obtain rfl : n = v := e
      match l, hc, hf with
      | [], hc, _ => exact absurd (.inl rfl) hc
      | [x], hc, hf =>
        unfold fd at hf
        split at hf
        · rename_i hx
          unfold fd at hf
          have := Option.some.inj hf
          rw [dec_small ⟨by omega, by omega⟩, dig_eq (x := x) (k := n.toNat) (by omega) (by omega)]
        · cases hf
      | [x, y], hc, hf =>
        have hz : ¬ x.toNat = 48 := fun hz => hc (.inr (.inr ⟨by simp, hz⟩))
        unfold fd at hf
        split at hf
        · rename_i hx
          unfold fd at hf
          split at hf
          · rename_i hy
            unfold fd at hf
            have := Option.some.inj hf
            rw [dec_big ⟨by omega, h.2⟩, dec_small ⟨by omega, by omega⟩, dig_eq (x := x) (k := (n / 10).toNat) (by omega) (by omega), dig_eq (x := y) (k := (n % 10).toNat) (by omega) (by omega)]; rfl
          · cases hf
        · cases hf
      | x :: y :: z :: r, hc, hf =>
        have hz : ¬ x.toNat = 48 := fun hz => hc (.inr (.inr ⟨by simp, hz⟩))
        unfold fd at hf
        split at hf
        · rename_i hx
          have := fd_ge (by omega) hf
          have hp : (10 : Int) ^ 2 ≤ 10 ^ (y :: z :: r).length := pow10_le (by simp)
          have h3 : (10 : Int) ^ 2 = 100 := by decide
          have h4 : (1 : Int) * 10 ^ (y :: z :: r).length ≤ (0 * 10 + ((x.toNat : Int) - 48)) * 10 ^ (y :: z :: r).length := Int.mul_le_mul_of_nonneg_right (by omega) (Int.pow_nonneg (by decide))
          omega
        · cases hf
theorem sNum_lo (l : List UInt8) : -1 ≤ sNum l := by
  unfold sNum
  split
  · omega
  · cases hf : fd l 0 with
    | none => exact Int.le_refl _
    | some n =>
      have := fd_ge (Int.le_refl 0) hf
      show -1 ≤ n
      omega
/-! the program's -/
theorem rdNum_dec {v : Int} (h : 0 ≤ v ∧ v < 100) : rdNum (toB (dec v)) = v := by
  have hi : Go.Lib.itoa v = dec v := by unfold Go.Lib.itoa dec; rw [if_neg (by omega)]
  have hp : Go.Lib.parseIntB 64 (dec v) = .ok v := by
    by_cases h1 : v < 10
    · rw [dec_small ⟨h.1, h1⟩]
      have e := dig_nat (k := v.toNat) (by omega)
      rw [Go.Lib.parseIntB_plain 64 _ _ (by omega) (by omega)]
      unfold Go.Lib.parseUintB Go.Lib.parseUintM Go.Lib.parseUintM
      rw [if_neg (by simp), if_pos (by omega), if_neg (by omega), if_neg (by omega), e]
      unfold Go.Lib.signlessC
      simp only []
      rw [if_neg (by omega)]
      congr 1; omega
    · rw [dec_big ⟨by omega, h.2⟩, dec_small ⟨by omega, by omega⟩]
      have e1 := dig_nat (k := (v / 10).toNat) (by omega)
      have e2 := dig_nat (k := (v % 10).toNat) (by omega)
      rw [List.singleton_append, Go.Lib.parseIntB_plain 64 _ _ (by omega) (by omega)]
      unfold Go.Lib.parseUintB Go.Lib.parseUintM Go.Lib.parseUintM Go.Lib.parseUintM
      rw [if_neg (by simp), if_pos (by omega), if_neg (by omega), if_neg (by omega), if_pos (by omega), if_neg (by omega), if_neg (by omega), e1, e2]
      unfold Go.Lib.signlessC
      simp only []
      rw [if_neg (by omega)]
      congr 1; omega
  unfold rdNum
  rw [toB_data, hp]
  show (if Go.Lib.itoa v = dec v then v else -1) = v
  rw [if_pos hi]
theorem dec_rdNum {l : List UInt8} {v : Int} (h : 0 ≤ v) (e : rdNum (toB l) = v) : l = dec v := by
  unfold rdNum at e
  rw [toB_data] at e
  cases hp : Go.Lib.parseIntB 64 l with
  | ok w =>
    rw [hp] at e
    dsimp only at e
    split at e
    · rename_i hi
      subst e
      rw [← hi]; unfold Go.Lib.itoa dec; rw [if_neg (by omega)]
    · omega
  | range => rw [hp] at e; dsimp only at e; omega
  | _ => rw [hp] at e; dsimp only at e; omega
theorem rdNum_64 (l : List UInt8) : -9223372036854775808 ≤ rdNum (toB l) ∧ rdNum (toB l) ≤ 9223372036854775807 := by
  unfold rdNum
  cases hp : Go.Lib.parseIntB 64 (toB l).data.toList with
  | ok w =>
    have := Go.Lib.parseIntB_bounds hp
    have h63 : ((2 ^ (64 - 1) : Nat) : Int) = 9223372036854775808 := rfl
    rw [h63] at this
    dsimp only
    split <;> omega
  | range => dsimp only; omega
  | _ => dsimp only; omega
theorem readNumber_D {fu : Nat} {l : List UInt8} (hl : l.length ≤ 2000000) : D_impl_readNumber fu (toB l) = some (rdNum (toB l)) := by
  unfold D_impl_readNumber
  rw [chk_t (by rw [toB_size]; omega)]
/-- both read the same small numbers -/
theorem nums_same {l : List UInt8} {lo hi : Int} (h0 : 0 ≤ lo) (h1 : hi < 100) : (lo ≤ sNum l ∧ sNum l ≤ hi ↔ lo ≤ rdNum (toB l) ∧ rdNum (toB l) ≤ hi) ∧ (lo ≤ sNum l ∧ sNum l ≤ hi → sNum l = rdNum (toB l) ∧ l = dec (sNum l)) := by
  have a : lo ≤ sNum l ∧ sNum l ≤ hi → sNum l = rdNum (toB l) ∧ l = dec (sNum l) := fun h => by
    have hd := dec_sNum (v := sNum l) ⟨by omega, by omega⟩ rfl
    have := rdNum_dec (v := sNum l) ⟨by omega, by omega⟩
    rw [← hd] at this
    exact ⟨this.symm, hd⟩
  refine ⟨⟨fun h => ?_, fun h => ?_⟩, a⟩
  · rw [← (a h).1]; exact h
  · have hd := dec_rdNum (l := l) (by omega) rfl
    have := sNum_dec (v := rdNum (toB l)) ⟨by omega, by omega⟩
    rw [← hd] at this
    rw [this]; exact h
end Go.Proofs.YtfiilgnebmidbaaDoor

