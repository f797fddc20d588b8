/-
  FnComponents: chain, components, the law. Plain Lean, no program, no condition.
-/
import Derived.Test.YtdafmafigcljkaaDTc
import Derived.Test.YtdafmafigcljkaaDTe
import Derived.Test.YtdafmafigcljkaaDTf
import Derived.Test.YtdafmafigcljkaaPuX
import Derived.Test.YtdafmafigcljkaaPuFB
import Derived.Test.YtdafmafigcljkaaPuYd
namespace Go.Proofs.Ytdafmafigcljkaa
open Go Am
set_option linter.unusedVariables false
set_option linter.unusedSimpArgs false
def chn (r q : List Int) (a : Int) : Nat → Int
  | 0 => a
  | k + 1 => rd (rw_ [r, q] (k % 2)) (chn r q a k).toNat
def stp (r q : List Int) (a : Int) (k : Nat) : Bool := decide (chn r q a (k + 1) = a) || decide (chn r q a (k + 1) = chn r q a k)
def chl (r q : List Int) (a : Int) (k : Nat) : List Int := (List.range (k + 1)).map (chn r q a)
def chK (r q : List Int) (a : Int) : Nat := ((List.range 15).find? (stp r q a)).getD 0
def chOk (n : Int) (r q : List Int) (a : Int) : Bool := isRnd n r && isRnd n q && inB a 0 (n - 1)
theorem chl_length (r q : List Int) (a : Int) (k : Nat) : (chl r q a k).length = k + 1 := by simp [chl]
theorem chl_last (r q : List Int) (a : Int) (k : Nat) : rd (chl r q a k) k = chn r q a k := by
  simp [rd, chl, List.getD_eq_getElem?_getD]
theorem chl_succ (r q : List Int) (a : Int) (k : Nat) : chl r q a (k + 1) = chl r q a k ++ [chn r q a (k + 1)] := by
  unfold chl; rw [List.range_succ, List.map_append]; rfl
theorem rnd_pt {n : Int} {r : List Int} (h : isRnd n r = true) {x : Int} (h0 : 0 ≤ x) (h1 : x < n) : 0 ≤ rd r x.toNat ∧ rd r x.toNat < n ∧ rd r (rd r x.toNat).toNat = x := by
  unfold isRnd at h
  rw [Bool.and_eq_true, List.all_eq_true] at h
  have hb := inB_of h.1
  have h2 := h.2 x.toNat (List.mem_range.2 (by omega))
  unfold rndAt at h2
  rw [if_pos (by omega), Bool.and_eq_true, decide_eq_true_eq] at h2
  have h3 := inB_of h2.1
  exact ⟨h3.1, by omega, by rw [h2.2]; omega⟩
theorem rw2 (r q : List Int) (k : Nat) : rw_ [r, q] (k % 2) = if k % 2 = 0 then r else q := by
  rcases Nat.mod_two_eq_zero_or_one k with h | h <;> rw [h] <;> rfl
theorem two_pt {n : Int} {r q : List Int} (hr : isRnd n r = true) (hq : isRnd n q = true) (k : Nat) {x : Int} (h0 : 0 ≤ x) (h1 : x < n) :
    0 ≤ rd (rw_ [r, q] (k % 2)) x.toNat ∧ rd (rw_ [r, q] (k % 2)) x.toNat < n ∧ rd (rw_ [r, q] (k % 2)) (rd (rw_ [r, q] (k % 2)) x.toNat).toNat = x := by
  rw [rw2]; split
  · exact rnd_pt hr h0 h1
  · exact rnd_pt hq h0 h1
theorem chn_in {n : Int} {r q : List Int} {a : Int} (h : chOk n r q a = true) : ∀ k, 0 ≤ chn r q a k ∧ chn r q a k < n := by
  unfold chOk at h
  simp only [Bool.and_eq_true] at h
  have ha := inB_of h.2
  intro k
  induction k with
  | zero => exact ⟨ha.1, by have := ha.2; show a < n; omega⟩
  | succ k ih => have := two_pt h.1.1 h.1.2 k ih.1 ih.2; exact ⟨this.1, this.2.1⟩
theorem pigeon : ∀ (n : Nat) (f : Nat → Nat), (∀ i, i ≤ n → f i < n) → ∃ i j, i < j ∧ j ≤ n ∧ f i = f j := by
  intro n
  induction n with
  | zero => intro f h; exact absurd (h 0 (Nat.le_refl _)) (Nat.not_lt_zero _)
  | succ n ih =>
    intro f h
    by_cases hv : ∃ i, i ≤ n ∧ f i = f (n + 1)
    · obtain ⟨i, hi, e⟩ := hv; exact ⟨i, n + 1, by omega, Nat.le_refl _, e⟩
    · have hne : ∀ i, i ≤ n → f i ≠ f (n + 1) := fun i hi e => hv ⟨i, hi, e⟩
      obtain ⟨i, j, h1, h2, e⟩ := ih (fun i => if f (n + 1) < f i then f i - 1 else f i) (fun i hi => by
        have a1 := h i (by omega); have a2 := hne i hi; have a3 := h (n + 1) (Nat.le_refl _)
        show (if f (n + 1) < f i then f i - 1 else f i) < n
        split <;> omega)
      refine ⟨i, j, h1, by omega, ?_⟩
      have a1 := hne i (by omega); have a2 := hne j h2
      have e' : (if f (n + 1) < f i then f i - 1 else f i) = (if f (n + 1) < f j then f j - 1 else f j) := e
      split at e' <;> split at e' <;> omega
theorem chn_diff {n : Int} {r q : List Int} {a : Int} (h : chOk n r q a = true) {k : Nat} (hs : ∀ j, j < k → stp r q a j = false) : ∀ j, j ≤ k → ∀ i, i < j → chn r q a i ≠ chn r q a j := by
  have hin := chn_in h
  unfold chOk at h
  simp only [Bool.and_eq_true] at h
  intro j
  induction j using Nat.strongRecOn with
  | _ j ih =>
    intro hj i hi e
    obtain ⟨j, rfl⟩ : ∃ m, j = m + 1 := ⟨j - 1, by omega⟩
    have hst := hs j (by omega)
    unfold stp at hst
    rw [Bool.or_eq_false_iff, decide_eq_false_iff_not, decide_eq_false_iff_not] at hst
    have back := (two_pt h.1.1 h.1.2 j (hin j).1 (hin j).2).2.2
    have back' : rd (rw_ [r, q] (j % 2)) (chn r q a (j + 1)).toNat = chn r q a j := back
    rcases Nat.eq_zero_or_pos i with rfl | hi0
    · exact hst.1 e.symm
    · by_cases hij : i = j
      · subst hij; exact hst.2 e.symm
      · by_cases hp : i % 2 = j % 2
        · have e1 : chn r q a (i + 1) = chn r q a j := by
            show rd (rw_ [r, q] (i % 2)) (chn r q a i).toNat = _
            rw [hp, e]; exact back'
          rcases Nat.lt_or_ge (i + 1) j with hlt | hge
          · exact ih j (by omega) (by omega) (i + 1) hlt e1
          · have : i + 1 = j := by omega
            omega
        · have hp' : (i - 1) % 2 = j % 2 := by omega
          have bi := (two_pt h.1.1 h.1.2 (i - 1) (hin (i - 1)).1 (hin (i - 1)).2).2.2
          have e0 : chn r q a i = rd (rw_ [r, q] ((i - 1) % 2)) (chn r q a (i - 1)).toNat := by
            have : i = i - 1 + 1 := by omega
            conv => lhs; rw [this]
            rfl
          rw [← e0] at bi
          rw [hp', e, back'] at bi
          exact ih j (by omega) (by omega) (i - 1) (by omega) bi.symm
theorem chK_spec {n : Int} {r q : List Int} {a : Int} (h : chOk n r q a = true) : stp r q a (chK r q a) = true ∧ chK r q a ≤ 14 ∧ ∀ j, j < chK r q a → stp r q a j = false := by
  have hn : n ≤ 14 := by
    unfold chOk isRnd at h
    simp only [Bool.and_eq_true] at h
    exact (inB_of h.1.1.1).2
  cases hf : (List.range 15).find? (stp r q a) with
  | none =>
    exfalso
    have hs : ∀ j, j < 15 → stp r q a j = false := fun j hj => by
      have := List.find?_eq_none.1 hf j (List.mem_range.2 hj); simpa using this
    have hd := chn_diff h hs
    have hin := chn_in h
    obtain ⟨i, j, h1, h2, e⟩ := pigeon 14 (fun i => (chn r q a i).toNat) (fun i _ => by have := hin i; omega)
    exact hd j (by omega) i h1 (by have := hin i; have := hin j; omega)
  | some k =>
    have e : chK r q a = k := by unfold chK; rw [hf]; rfl
    rw [e]
    obtain ⟨h1, l1, l2, h2, h3⟩ := List.find?_eq_some_iff_append.1 hf
    have hk : k ∈ List.range 15 := List.mem_of_find?_eq_some hf
    have hlen : l1.length = k := by
      have h4 : (List.range 15)[l1.length]? = some k := by rw [h2, List.getElem?_append_right (Nat.le_refl _)]; simp
      rw [List.getElem?_eq_some_iff] at h4
      obtain ⟨h5, h6⟩ := h4
      rw [List.getElem_range] at h6; exact h6
    refine ⟨h1, by have := List.mem_range.1 hk; omega, fun j hj => ?_⟩
    have h7 : j ∈ l1 := by
      have h8 : (List.range 15)[j]? = some j := List.getElem?_range (by have := List.mem_range.1 hk; omega)
      rw [h2, List.getElem?_append_left (by omega)] at h8
      exact List.mem_of_getElem? h8
    simpa using h3 j h7
theorem chK_at {n : Int} {r q : List Int} {a : Int} (h : chOk n r q a = true) {k : Nat} (hk : k ≤ chK r q a) (hs : stp r q a k = true) : chK r q a = k := by
  obtain ⟨_, _, h3⟩ := chK_spec h
  rcases Nat.lt_or_ge k (chK r q a) with hlt | hge
  · rw [h3 k hlt] at hs; cases hs
  · omega
theorem chK_lt {n : Int} {r q : List Int} {a : Int} (h : chOk n r q a = true) {k : Nat} (hk : k ≤ chK r q a) (hs : stp r q a k = false) : k < chK r q a := by
  obtain ⟨h1, _, _⟩ := chK_spec h
  rcases Nat.lt_or_ge k (chK r q a) with hlt | hge
  · exact hlt
  · have : k = chK r q a := by omega
    rw [← this, hs] at h1; cases h1
def chainOf (n : Int) (r q : List Int) (a : Int) : List Int × Int := if two n r q && inB a 0 (n - 1) then (chl r q a (chK r q a), 0) else ([], 2)
theorem chOk_of {n : Int} {r q : List Int} {a : Int} (h : (two n r q && inB a 0 (n - 1)) = true) : chOk n r q a = true := h
theorem chn_succ (r q : List Int) (a : Int) (k : Nat) : rd (rw_ [r, q] (k % 2)) (chn r q a k).toNat = chn r q a (k + 1) := rfl
theorem sChain_D {fu : Nat} (hf : Big fu) (n : Int) {r q : List Int} {a : Int} (hr : r.length = 14) (hq : q.length = 14) (hn : -100 ≤ n ∧ n ≤ 100) : D_spec_ChainFrom fu n r q a = some (chainOf n r q a) := by
  have hf' := hf
  unfold Big at hf
  unfold D_spec_ChainFrom chainOf
  rw [l02Rounds_D hf' n hr hq, Option.bind_some]
  cases h2 : two n r q with
  | false =>
    rw [if_neg (by decide), bif_df (by omega), Option.bind_some, bif_false, Option.bind_some, bif_nf (by omega)]; rfl
  | true =>
    rw [if_pos rfl, bif_dt rfl, chk_in64 (by omega) (by omega), l01In_D, Option.bind_some, Option.bind_some]
    cases hb : inB a 0 (n - 1) with
    | false => rfl
    | true =>
      have hc : chOk n r q a = true := chOk_of (by rw [h2, hb]; rfl)
      obtain ⟨s1, s2, s3⟩ := chK_spec hc
      have hin := chn_in hc
      have h14 := (two_of h2).1
      rw [Bool.not_true, bif_false, Option.bind_some, bif_nt rfl]
      rw [loop_seq (fun k => (chl r q a k, ((k % 2 : Nat) : Int))) (chK r q a) (chl r q a (chK r q a), 0) (by omega) ?_ ?_ (s := ([a], 0)) rfl, Option.bind_some]
      · rfl
      · intro k hk
        have hl := chl_length r q a k
        have hk' := hin k
        have hs := s3 k hk
        unfold stp at hs
        rw [Bool.or_eq_false_iff, decide_eq_false_iff_not, decide_eq_false_iff_not] at hs
        unfold D_spec_ChainFrom_s0
        dsimp only
        rw [hl, show ((((k + 1 : Nat) : Int)) - 1) = (k : Int) by omega, Int.toNat_natCast, Int.toNat_natCast, chl_last, chn_succ, chk_in64 (by omega) (by omega), chk_inR (by omega) (by omega), chk_inR (by omega) (by omega), chk_inR (by omega) (by omega), decide_eq_false hs.1, decide_eq_false hs.2, Bool.or_false, bif_false, chk_le (by omega), chk_in64 (by omega) (by omega), ← chl_succ, show (1 : Int) - ((k % 2 : Nat) : Int) = (((k + 1) % 2 : Nat) : Int) by omega]
      · have hl := chl_length r q a (chK r q a)
        have hk' := hin (chK r q a)
        unfold D_spec_ChainFrom_s0
        dsimp only
        rw [hl, show ((((chK r q a + 1 : Nat) : Int)) - 1) = (chK r q a : Int) by omega, Int.toNat_natCast, Int.toNat_natCast, chl_last, chn_succ, chk_in64 (by omega) (by omega), chk_inR (by omega) (by omega), chk_inR (by omega) (by omega), chk_inR (by omega) (by omega)]
        have : (decide (chn r q a (chK r q a + 1) = a) || decide (chn r q a (chK r q a + 1) = chn r q a (chK r q a))) = true := s1
        rw [this, bif_true]
theorem iChain_D {fu : Nat} (hf : Big fu) (n : Int) {r q : List Int} {a : Int} (hr : r.length = 14) (hq : q.length = 14) (hn : -100 ≤ n ∧ n ≤ 100) : D_impl_ChainFrom fu n r q a = some (chainOf n r q a) := by
  have hf' := hf
  unfold Big at hf
  unfold D_impl_ChainFrom chainOf
  rw [twoCode_D hf' n hr hq, Option.bind_some]
  cases h2 : two n r q with
  | false =>
    rw [if_neg (by decide), bif_df (by omega), Option.bind_some, bif_false, Option.bind_some, bif_nf (by omega)]; rfl
  | true =>
    rw [if_pos rfl, bif_dt rfl, chk_in64 (by omega) (by omega), between_D, Option.bind_some, Option.bind_some]
    cases hb : inB a 0 (n - 1) with
    | false => rfl
    | true =>
      have hc : chOk n r q a = true := chOk_of (by rw [h2, hb]; rfl)
      obtain ⟨s1, s2, s3⟩ := chK_spec hc
      have hin := chn_in hc
      have h14 := (two_of h2).1
      rw [Bool.not_true, bif_false, Option.bind_some, bif_nt rfl]
      rw [loop_seq (fun k => (chl r q a k, rw_ [r, q] (k % 2), rw_ [r, q] ((k + 1) % 2))) (chK r q a) (chl r q a (chK r q a), 0) (by omega) ?_ ?_ (s := ([a], r, q)) rfl, Option.bind_some]
      · rfl
      · intro k hk
        have hl := chl_length r q a k
        have hk' := hin k
        have hs := s3 k hk
        unfold stp at hs
        rw [Bool.or_eq_false_iff, decide_eq_false_iff_not, decide_eq_false_iff_not] at hs
        unfold D_impl_ChainFrom_s0
        dsimp only
        rw [hl, show ((((k + 1 : Nat) : Int)) - 1) = (k : Int) by omega, Int.toNat_natCast, chl_last, chn_succ, chk_in64 (by omega) (by omega), chk_inR (by omega) (by omega), chk_inR (by omega) (by omega), decide_eq_false hs.1, decide_eq_false hs.2, Bool.or_false, bif_false, chk_le (by omega), ← chl_succ, show (k + 1 + 1) % 2 = k % 2 by omega]
      · have hl := chl_length r q a (chK r q a)
        have hk' := hin (chK r q a)
        unfold D_impl_ChainFrom_s0
        dsimp only
        rw [hl, show ((((chK r q a + 1 : Nat) : Int)) - 1) = (chK r q a : Int) by omega, Int.toNat_natCast, chl_last, chn_succ, chk_in64 (by omega) (by omega), chk_inR (by omega) (by omega), chk_inR (by omega) (by omega)]
        have : (decide (chn r q a (chK r q a + 1) = a) || decide (chn r q a (chK r q a + 1) = chn r q a (chK r q a))) = true := s1
        rw [this, bif_true]
theorem rd_app_l {l t : List Int} {j : Nat} (h : j < l.length) : rd (l ++ t) j = rd l j := by
  simp [rd, List.getD_eq_getElem?_getD, List.getElem?_append_left h]
structure J (n : Nat) (r q : List Int) (m0 : List Bool) (s : List Bool × List Int) (i : Nat) : Prop where
  b : Bi n s
  m : ∀ j, j < n → (rdb s.1 j = true ↔ rdb m0 j = true ∨ (j : Int) ∈ s.2)
  o : ∀ x ∈ s.2, rdb m0 x.toNat = false
  le : i ≤ s.2.length
  c : ∀ j, j < i → rd r (rd s.2 j).toNat ∈ s.2 ∧ rd q (rd s.2 j).toNat ∈ s.2
theorem vst_J {n : Nat} {r q : List Int} {m0 : List Bool} {s : List Bool × List Int} {i : Nat} (h : J n r q m0 s i) {b : Int} (hb : 0 ≤ b ∧ b < n) (ho : rdb m0 b.toNat = false) : J n r q m0 (vst s b) i ∧ b ∈ (vst s b).2 ∧ ∃ t, (vst s b).2 = s.2 ++ t := by
  have hB := h.b.vst hb
  have e0 : ((b.toNat : Nat) : Int) = b := by omega
  by_cases hm : rdb s.1 b.toNat = true
  · have e : vst s b = s := by unfold vst; rw [if_pos hm]
    rw [e]
    refine ⟨h, ?_, [], by simp⟩
    rcases (h.m b.toNat (by omega)).1 hm with h1 | h1
    · rw [ho] at h1; cases h1
    · rwa [e0] at h1
  · have e : vst s b = (s.1.set b.toNat true, s.2 ++ [b]) := by unfold vst; rw [if_neg hm]
    rw [e] at hB ⊢
    refine ⟨⟨hB, fun j hj => ?_, fun x hx => ?_, ?_, fun j hj => ?_⟩, by simp, [b], rfl⟩
    · show rdb (s.1.set b.toNat true) j = true ↔ rdb m0 j = true ∨ (j : Int) ∈ s.2 ++ [b]
      rw [rdb_set (by rw [h.b.len]; omega), List.mem_append, List.mem_singleton]
      by_cases hjb : b.toNat = j
      · rw [if_pos hjb]; exact ⟨fun _ => .inr (.inr (by omega)), fun _ => rfl⟩
      · rw [if_neg hjb, h.m j hj]
        constructor
        · rintro (h1 | h1)
          · exact .inl h1
          · exact .inr (.inl h1)
        · rintro (h1 | h1 | h1)
          · exact .inl h1
          · exact .inr h1
          · omega
    · rcases List.mem_append.1 hx with hx | hx
      · exact h.o x hx
      · rw [List.mem_singleton.1 hx]; exact ho
    · have := h.le
      show i ≤ (s.2 ++ [b]).length
      rw [List.length_append]; omega
    · have h1 := h.c j hj
      have := h.le
      show rd r (rd (s.2 ++ [b]) j).toNat ∈ s.2 ++ [b] ∧ _
      rw [rd_app_l (by omega)]
      exact ⟨List.mem_append_left _ h1.1, List.mem_append_left _ h1.2⟩
def clo (n : Nat) (r q : List Int) (m0 : List Bool) : Prop := ∀ y : Int, 0 ≤ y ∧ y < n → rdb m0 y.toNat = true → rdb m0 (rd r y.toNat).toNat = true ∧ rdb m0 (rd q y.toNat).toNat = true
theorem clo_not {n : Nat} {r q : List Int} {m0 : List Bool} (hc : clo n r q m0) (hr : rndOk n r) (hq : rndOk n q) {y : Int} (hy : 0 ≤ y ∧ y < n) (h : rdb m0 y.toNat = false) : rdb m0 (rd r y.toNat).toNat = false ∧ rdb m0 (rd q y.toNat).toNat = false := by
  have e0 : ((y.toNat : Nat) : Int) = y := by omega
  obtain ⟨a1, a2, a3⟩ := hr y.toNat (by omega)
  obtain ⟨b1, b2, b3⟩ := hq y.toNat (by omega)
  constructor
  · cases hh : rdb m0 (rd r y.toNat).toNat with
    | false => rfl
    | true =>
      have := (hc _ ⟨a1, a2⟩ hh).1
      rw [a3, e0, h] at this; cases this
  · cases hh : rdb m0 (rd q y.toNat).toNat with
    | false => rfl
    | true =>
      have := (hc _ ⟨b1, b2⟩ hh).2
      rw [b3, e0, h] at this; cases this
theorem bfs_J {n : Nat} {r q : List Int} {m0 : List Bool} (hc : clo n r q m0) (hr : rndOk n r) (hq : rndOk n q) : ∀ (k i : Nat) (s : List Bool × List Int), n ≤ i + k → J n r q m0 s i → J n r q m0 (bfs r q k s i) (bfs r q k s i).2.length ∧ ∃ t, (bfs r q k s i).2 = s.2 ++ t
  | 0, i, s, hi, h => by
    have h1 := h.b.le
    have h2 := h.le
    have e : s.2.length = i := by omega
    refine ⟨?_, [], by simp [bfs]⟩
    show J n r q m0 s s.2.length
    rw [e]; exact h
  | k + 1, i, s, hi, h => by
    have h2 := h.le
    unfold bfs
    by_cases hil : i < s.2.length
    · rw [if_pos hil]
      have hm := h.b.mem _ (rd_mem hil)
      have ho := h.o _ (rd_mem hil)
      obtain ⟨n1, n2⟩ := clo_not hc hr hq ⟨hm.1, hm.2.1⟩ ho
      obtain ⟨a1, a2, _⟩ := hr (rd s.2 i).toNat (by omega)
      obtain ⟨b1, b2, _⟩ := hq (rd s.2 i).toNat (by omega)
      obtain ⟨j1, j2, t1, j3⟩ := vst_J h ⟨a1, a2⟩ n1
      obtain ⟨k1, k2, t2, k3⟩ := vst_J j1 ⟨b1, b2⟩ n2
      have e : (bst r q s (rd s.2 i)).2 = s.2 ++ (t1 ++ t2) := by unfold bst; rw [k3, j3, List.append_assoc]
      have hJ : J n r q m0 (bst r q s (rd s.2 i)) (i + 1) := by
        refine ⟨k1.b, k1.m, k1.o, by rw [e, List.length_append]; omega, fun j hj => ?_⟩
        by_cases hji : j < i
        · exact k1.c j hji
        · have : j = i := by omega
          subst this
          rw [e, rd_app_l hil, ← e]
          refine ⟨?_, k2⟩
          unfold bst; rw [k3]; exact List.mem_append_left _ j2
      obtain ⟨r1, t, r2⟩ := bfs_J hc hr hq k (i + 1) _ (by omega) hJ
      exact ⟨r1, t1 ++ t2 ++ t, by rw [r2, e]; simp only [List.append_assoc]⟩
    · rw [if_neg hil]
      have e : s.2.length = i := by omega
      refine ⟨?_, [], by simp⟩
      rw [e]; exact h
structure Kc (n : Nat) (r q : List Int) (k : Nat) (C : List (List Int)) (m : List Bool) : Prop where
  len : m.length = n
  nd : C.flatten.Nodup
  mem : ∀ x : Int, x ∈ C.flatten ↔ (0 ≤ x ∧ x < n) ∧ rdb m x.toNat = true
  up : ∀ j, j < k → rdb m j = true
  cl : ∀ c ∈ C, ∀ y ∈ c, rd r y.toNat ∈ c ∧ rd q y.toNat ∈ c
theorem Kc.clo {n : Nat} {r q : List Int} {k : Nat} {C : List (List Int)} {m : List Bool} (h : Kc n r q k C m) : clo n r q m := fun y hy hm => by
  obtain ⟨c, hc, hyc⟩ := List.mem_flatten.1 ((h.mem y).2 ⟨hy, hm⟩)
  obtain ⟨h1, h2⟩ := h.cl c hc y hyc
  exact ⟨((h.mem _).1 (List.mem_flatten.2 ⟨c, hc, h1⟩)).2, ((h.mem _).1 (List.mem_flatten.2 ⟨c, hc, h2⟩)).2⟩
theorem cst_K {n : Nat} {r q : List Int} (hr : rndOk n r) (hq : rndOk n q) : ∀ k, k ≤ n → Kc n r q k (cst n r q k).1 (cst n r q k).2
  | 0, _ => by
    refine ⟨by simp [cst], by simp [cst], fun x => ?_, fun j hj => absurd hj (Nat.not_lt_zero _), fun c hc => by simp [cst] at hc⟩
    constructor
    · intro hx; simp [cst] at hx
    · rintro ⟨h1, h2⟩
      have : rdb (List.replicate n false) x.toNat = true := h2
      unfold rdb at this
      rw [List.getD_eq_getElem?_getD, List.getElem?_replicate] at this
      split at this <;> simp at this
  | k + 1, hk => by
    have ih := cst_K hr hq k (by omega)
    unfold cst
    by_cases e : rdb (cst n r q k).2 k = true
    · rw [if_pos e]
      refine ⟨ih.len, ih.nd, ih.mem, fun j hj => ?_, ih.cl⟩
      rcases Nat.lt_succ_iff_lt_or_eq.1 hj with hj | rfl
      · exact ih.up j hj
      · exact e
    · rw [if_neg e]
      have e' : rdb (cst n r q k).2 k = false := by simpa using e
      have hJ : J n r q (cst n r q k).2 ((cst n r q k).2.set k true, [(k : Int)]) 0 := by
        refine ⟨bi_one ih.len (by omega), fun j hj => ?_, fun x hx => ?_, Nat.zero_le _, fun j hj => absurd hj (Nat.not_lt_zero _)⟩
        · show rdb ((cst n r q k).2.set k true) j = true ↔ _
          rw [rdb_set (by rw [ih.len]; omega), List.mem_singleton]
          by_cases hjk : k = j
          · rw [if_pos hjk]; exact ⟨fun _ => .inr (by omega), fun _ => rfl⟩
          · rw [if_neg hjk]
            constructor
            · exact .inl
            · rintro (h1 | h1)
              · exact h1
              · omega
        · rw [List.mem_singleton.1 hx, Int.toNat_natCast]; exact e'
      obtain ⟨f, t, ft⟩ := bfs_J ih.clo hr hq n 0 _ (by omega) hJ
      generalize bfs r q n ((cst n r q k).2.set k true, [(k : Int)]) 0 = s at f ft
      refine ⟨f.b.len, ?_, fun x => ?_, fun j hj => ?_, fun c hc => ?_⟩
      · rw [List.flatten_append, List.nodup_append]
        refine ⟨ih.nd, ?_, fun x hx y hy => ?_⟩
        · simpa using (srt_perm s.2).nodup_iff.2 f.b.nd
        · rintro rfl
          have h1 : x ∈ s.2 := by simpa [srt_mem] using hy
          have h2 := ((ih.mem x).1 hx).2
          rw [f.o x h1] at h2; cases h2
      · rw [List.flatten_append, List.mem_append, ih.mem]
        have hs : x ∈ [srt s.2].flatten ↔ x ∈ s.2 := by simp [srt_mem]
        rw [hs]
        constructor
        · rintro (⟨h1, h2⟩ | h1)
          · exact ⟨h1, (f.m x.toNat (by omega)).2 (.inl h2)⟩
          · have := f.b.mem x h1; exact ⟨⟨this.1, this.2.1⟩, this.2.2⟩
        · rintro ⟨h1, h2⟩
          rcases (f.m x.toNat (by omega)).1 h2 with h3 | h3
          · exact .inl ⟨h1, h3⟩
          · rw [show ((x.toNat : Nat) : Int) = x by omega] at h3; exact .inr h3
      · rcases Nat.lt_succ_iff_lt_or_eq.1 hj with hj | rfl
        · exact (f.m j (by omega)).2 (.inl (ih.up j hj))
        · exact (f.m j (by omega)).2 (.inr (by rw [ft]; simp))
      · rcases List.mem_append.1 hc with hc | hc
        · exact ih.cl c hc
        · rw [List.mem_singleton.1 hc]
          intro y hy
          obtain ⟨j, hj, rfl⟩ : ∃ j, j < s.2.length ∧ rd s.2 j = y := by
            obtain ⟨j, hj, e⟩ := List.getElem_of_mem (srt_mem.1 hy)
            exact ⟨j, hj, by rw [← e]; simp [rd, List.getD_eq_getElem?_getD, List.getElem?_eq_getElem hj]⟩
          have := f.c j hj
          exact ⟨srt_mem.2 this.1, srt_mem.2 this.2⟩
theorem comps_K {n : Nat} {r q : List Int} (hr : rndOk n r) (hq : rndOk n q) : (comps n r q).flatten.length = n ∧ ∀ c ∈ comps n r q, ∀ y ∈ c, rd r y.toNat ∈ c ∧ rd q y.toNat ∈ c := by
  have h := cst_K hr hq n (Nat.le_refl _)
  refine ⟨?_, h.cl⟩
  have hp : ((comps n r q).flatten).Perm ((List.range n).map fun (j : Nat) => (j : Int)) := by
    refine (List.perm_ext_iff_of_nodup h.nd ?_).2 fun x => ?_
    · rw [List.Nodup, List.pairwise_map]
      exact List.Pairwise.imp (fun {a b} hab e => hab (by omega)) List.nodup_range
    · refine (h.mem x).trans ⟨fun hx => ?_, fun hx => ?_⟩
      · exact List.mem_map.2 ⟨x.toNat, List.mem_range.2 (by omega), by omega⟩
      · obtain ⟨j, hj, rfl⟩ := List.mem_map.1 hx
        have := List.mem_range.1 hj
        refine ⟨by omega, ?_⟩
        rw [Int.toNat_natCast]; exact h.up j this
  simpa using hp.length_eq
theorem sum_D {fu : Nat} (hf : Big fu) {xs : List Int} (hl : xs.length ≤ 40) (h0 : ∀ x ∈ xs, 0 ≤ x) (h1 : xs.sum ≤ 50000) : D_laws_sum fu xs = some xs.sum := by
  unfold Big at hf
  unfold D_laws_sum
  rw [loop_seq (fun k => ((xs.take k).sum, (k : Int))) xs.length xs.sum (by omega) ?_ ?_ (s := (0, 0)) rfl, Option.bind_some]
  · intro k hk
    have a1 := sum_take_le h0 k
    have a2 := sum_take_le h0 (k + 1)
    have a3 := sum_take hk
    unfold D_laws_sum_s0
    simp (disch := omega) only [bif_dt, chk_inR, chk_in64, Int.toNat_natCast, ← a3]; rfl
  · unfold D_laws_sum_s0
    simp (disch := omega) only [bif_df, List.take_length]
theorem like_D {fu : Nat} (hf : Big fu) {xs : List Int} (hl : xs.length ≤ 4294967296) : D_laws_likeInts fu xs xs = some true := by
  unfold Big at hf
  unfold D_laws_likeInts
  rw [bif_nt rfl, loop_seq (fun k => (k : Int)) xs.length (.inl ()) (by omega) ?_ ?_ (s := 0) rfl, Option.bind_some]
  · intro k hk
    unfold D_laws_likeInts_s0
    simp (disch := omega) only [bif_dt, chk_inR, chk_in64, Int.toNat_natCast]
    rw [bif_nt trivial]; rfl
  · unfold D_laws_likeInts_s0
    simp (disch := omega) only [bif_df]
theorem rows9_D {fu : Nat} (hf : Big fu) {T : List (List Int)} (hl : T.length ≤ 4294967296) (hr : ∀ r ∈ T, r.length ≤ 4294967296) : D_laws_rows9 fu T T = some true := by
  have hf' := hf
  unfold Big at hf
  unfold D_laws_rows9
  rw [bif_nt rfl, loop_seq (fun k => (k : Int)) T.length (.inl ()) (by omega) ?_ ?_ (s := 0) rfl, Option.bind_some]
  · intro k hk
    unfold D_laws_rows9_s0
    simp (disch := omega) only [bif_dt, chk_inR, chk_in64, Int.toNat_natCast]
    rw [like_D hf' (hr _ (rw_mem hk)), Option.bind_some, Bool.not_true, bif_false]; rfl
  · unfold D_laws_rows9_s0
    simp (disch := omega) only [bif_df]
theorem has_D {fu : Nat} (hf : Big fu) {c : List Int} {x : Int} (hl : c.length ≤ 4294967296) : D_laws_hasInt fu c x = some (decide (x ∈ c)) := by
  unfold Big at hf
  unfold D_laws_hasInt
  rw [loop_find (fun k => (k : Int)) (fun k => !decide (rd c k = x)) c.length (.inl ()) (fun _ => .inr true) (by omega) ?_ ?_ ?_ (s := 0) rfl]
  · have h1 := firstNot_spec (fun k => !decide (rd c k = x)) c.length
    have h2 := firstNot_le (fun k => !decide (rd c k = x)) c.length
    by_cases h : firstNot (fun k => !decide (rd c k = x)) c.length < c.length
    · rw [if_pos h]
      have h3 := h1.2 h
      have h4 : rd c (firstNot (fun k => !decide (rd c k = x)) c.length) = x := by simpa using h3
      have : x ∈ c := by rw [← h4]; exact rd_mem h
      rw [decide_eq_true this]; rfl
    · rw [if_neg h]
      have : ¬ x ∈ c := fun hx => by
        obtain ⟨j, hj, e⟩ := List.getElem_of_mem hx
        have h3 := h1.1 j (by omega)
        have h4 : rd c j = x := by rw [← e]; simp [rd, List.getD_eq_getElem?_getD, List.getElem?_eq_getElem hj]
        rw [h4] at h3; simp at h3
      rw [decide_eq_false this]; rfl
  · intro k hk hp _
    have hne : ¬ rd c k = x := by simpa using hp
    unfold D_laws_hasInt_s0
    simp (disch := omega) only [bif_dt, chk_inR, chk_in64, Int.toNat_natCast]
    rw [bif_df hne]; rfl
  · intro k hk hp _
    have hne : rd c k = x := by simpa using hp
    unfold D_laws_hasInt_s0
    simp (disch := omega) only [bif_dt, chk_inR, chk_in64, Int.toNat_natCast]
  · intro _
    unfold D_laws_hasInt_s0
    simp (disch := omega) only [bif_df]
/-! the lengths of the components -/
theorem lens_sum : ∀ (C : List (List Int)), (C.map fun c => (c.length : Int)).sum = (C.flatten.length : Int)
  | [] => rfl
  | c :: C => by rw [List.map_cons, List.sum_cons, lens_sum C, List.flatten_cons, List.length_append]; push_cast; rfl
theorem sum_perm {a b : List Int} (h : a.Perm b) : a.sum = b.sum := by
  induction h with
  | nil => rfl
  | cons x _ ih => rw [List.sum_cons, List.sum_cons, ih]
  | swap x y l => simp only [List.sum_cons]; omega
  | trans _ _ h1 h2 => exact h1.trans h2
theorem typ_sum {n : Int} {r q : List Int} (h : two n r q = true) : (typ n.toNat r q).sum = n ∧ (∀ x ∈ typ n.toNat r q, 0 ≤ x) := by
  obtain ⟨hn, _, _⟩ := two_of h
  unfold two at h
  rw [Bool.and_eq_true] at h
  have hr := rndOk_of hn h.1
  have hq := rndOk_of hn h.2
  obtain ⟨k1, _⟩ := comps_K hr hq
  have hp : (typ n.toNat r q).Perm ((comps n.toNat r q).map fun c => (c.length : Int)) := by
    unfold typ; exact (List.reverse_perm _).trans (srt_perm _)
  refine ⟨?_, fun x hx => ?_⟩
  · rw [sum_perm hp, lens_sum, k1]; omega
  · obtain ⟨c, _, rfl⟩ := List.mem_map.1 (hp.mem_iff.1 hx); omega
/-- the chain stays in a component -/
theorem chn_comp {n : Int} {r q : List Int} {a : Int} (h : two n r q = true) {c : List Int} (hc : c ∈ comps n.toNat r q) (ha : a ∈ c) : ∀ k, chn r q a k ∈ c
  | 0 => ha
  | k + 1 => by
    obtain ⟨hn, _, _⟩ := two_of h
    have h' := h
    unfold two at h'
    rw [Bool.and_eq_true] at h'
    have ih := chn_comp h hc ha k
    obtain ⟨k1, k2⟩ := (comps_K (rndOk_of hn h'.1) (rndOk_of hn h'.2)).2 c hc _ ih
    show rd (rw_ [r, q] (k % 2)) (chn r q a k).toNat ∈ c
    rw [rw2]
    split
    · exact k1
    · exact k2
theorem tyP_count (n : Int) (rs : List (List Int)) : ∀ k, k ≤ rs.length → 2 * (tyP n rs k).length + k * (k + 1) = 2 * (rs.length * k)
  | 0, _ => by simp [tyP]
  | k + 1, h => by
    have ih := tyP_count n rs k (by omega)
    rw [tyP_succ, List.length_append, tyR_len]
    simp only [Nat.mul_add, Nat.add_mul, Nat.mul_one, Nat.one_mul] at ih ⊢
    omega
theorem tyP_half (n : Int) (rs : List (List Int)) : (((rs.length : Nat) : Int) * (((rs.length : Nat) : Int) - 1)).tdiv 2 = ((tyP n rs rs.length).length : Int) := by
  have h := tyP_count n rs rs.length (Nat.le_refl _)
  have e : ((rs.length : Nat) : Int) * (((rs.length : Nat) : Int) - 1) = 2 * ((tyP n rs rs.length).length : Int) := by
    have h' : (2 * ((tyP n rs rs.length).length : Int)) + (rs.length : Int) * ((rs.length : Int) + 1) = 2 * ((rs.length : Int) * (rs.length : Int)) := by exact_mod_cast h
    rw [Int.mul_sub, Int.mul_one]
    rw [Int.mul_add, Int.mul_one] at h'
    omega
  rw [e]; exact Int.mul_tdiv_cancel_left _ (by decide)
theorem all_one {n : Int} {rs : List (List Int)} (h : isSch n rs = true) : (tyP n rs rs.length).all (fun t => decide ((t.length : Int) = 1)) = prf n rs := by
  have h1 := prf_any big0 h
  have h2 : ∀ t ∈ tyP n rs rs.length, 0 < t.length := fun t ht => by
    obtain ⟨i, j, hi, hij, hj, rfl⟩ := tyP_mem.1 ht
    rw [typ_len]
    exact (comps_small big0 (sch_two h hi hj)).1
  cases hp : prf n rs with
  | true =>
    rw [hp] at h1
    rw [List.all_eq_true]
    intro t ht
    have h3 : ¬ (1 < (t.length : Int)) := fun h4 => by
      have : ((tyP n rs rs.length).any fun t => decide (1 < (t.length : Int))) = true := List.any_eq_true.2 ⟨t, ht, decide_eq_true h4⟩
      rw [this] at h1; cases h1
    have := h2 t ht
    exact decide_eq_true (by omega)
  | false =>
    rw [hp] at h1
    obtain ⟨t, ht, h4⟩ := List.any_eq_true.1 h1
    cases ha : (tyP n rs rs.length).all (fun t => decide ((t.length : Int) = 1)) with
    | false => rfl
    | true =>
      have h5 := List.all_eq_true.1 ha t ht
      have h6 := of_decide_eq_true h4
      have h7 := of_decide_eq_true h5
      omega
theorem s0_D {n : Int} {rs : List (List Int)} (h : isSch n rs = true) : loopF (D_laws_FnComponents_s0 fu0 n (tyP n rs rs.length)) fu0 (true, 0) = some (.inl (prf n rs)) := by
  have hn := (isSch_of h).1
  have hl := tyP_len n (isSch_of h).2 rs.length
  have h40 := (isSch_of h).2
  have hl2 : rs.length * 40 ≤ 40 * 40 := Nat.mul_le_mul_right _ h40
  have key : ∀ t ∈ tyP n rs rs.length, D_laws_sum fu0 t = some n := fun t ht => by
    obtain ⟨i, j, hi, hij, hj, rfl⟩ := tyP_mem.1 ht
    have h2 := sch_two h hi hj
    obtain ⟨k1, k2⟩ := typ_sum h2
    rw [sum_D big0 (by rw [typ_len]; have := (comps_small big0 h2).2.1; omega) k2 (by omega), k1]
  rw [← all_one h]
  generalize tyP n rs rs.length = T at hl key
  rw [loop_seq (fun k => ((T.take k).all (fun t => decide ((t.length : Int) = 1)), (k : Int))) T.length (.inl (T.all (fun t => decide ((t.length : Int) = 1)))) (by unfold fu0; omega) ?_ ?_ (s := (true, 0)) rfl]
  · intro k hk
    unfold D_laws_FnComponents_s0
    dsimp only
    rw [bif_dt (by omega), Int.toNat_natCast, take_rw hk, List.all_append]
    cases hb : (T.take k).all (fun t => decide ((t.length : Int) = 1)) with
    | true =>
      rw [bif_true, chk_inR (by omega) (by omega), Option.bind_some, chk_inR (by omega) (by omega), key _ (rw_mem hk), Option.bind_some, bif_nt rfl, chk_in64 (by omega) (by omega)]
      simp
    | false =>
      rw [bif_false, Option.bind_some, chk_inR (by omega) (by omega), key _ (rw_mem hk), Option.bind_some, bif_nt rfl, chk_in64 (by omega) (by omega)]
      simp
  · unfold D_laws_FnComponents_s0
    dsimp only
    rw [bif_df (by omega), List.take_length]
theorem s1_D {C : List (List Int)} (hl : C.length ≤ 40) (hc : ∀ c ∈ C, c.length ≤ 14) : loopF (D_laws_FnComponents_s1 fu0 C) fu0 (0, 0) = some (C.flatten.length : Int) := by
  have hb : ∀ k, ((C.take k).flatten.length) ≤ 14 * k := fun k => by
    induction k with
    | zero => simp
    | succ k ih =>
      by_cases hk : k < C.length
      · rw [take_rw hk, List.flatten_append, List.length_append]
        have := hc _ (rw_mem hk)
        have e1 : [rw_ C k].flatten = rw_ C k := List.append_nil _
        rw [e1]; omega
      · rw [List.take_of_length_le (by omega)] at ih ⊢; omega
  rw [loop_seq (fun k => (((C.take k).flatten.length : Int), (k : Int))) C.length (C.flatten.length : Int) (by unfold fu0; omega) ?_ ?_ (s := (0, 0)) rfl]
  · intro k hk
    have h1 := hb k
    have h2 := hc _ (rw_mem hk)
    have e : (((C.take (k + 1)).flatten.length : Nat) : Int) = ((C.take k).flatten.length : Int) + ((rw_ C k).length : Int) := by
      rw [take_rw hk, List.flatten_append, List.length_append]; simp
    unfold D_laws_FnComponents_s1
    simp (disch := omega) only [bif_dt, chk_inR, chk_in64, Int.toNat_natCast, e]; rfl
  · unfold D_laws_FnComponents_s1
    simp (disch := omega) only [bif_df, List.take_length]
theorem s2_D {C : List (List Int)} {xs : List Int} {a : Int} (hl : C.length ≤ 40) (hc : ∀ c ∈ C, c.length ≤ 14) (hx : xs.length ≤ 40) (hcl : ∀ c ∈ C, a ∈ c → ∀ x ∈ xs, x ∈ c) : loopF (D_laws_FnComponents_s2 fu0 a C xs) fu0 0 = some (.inl ()) := by
  rw [loop_seq (fun k => (k : Int)) C.length (.inl ()) (by unfold fu0; omega) ?_ ?_ (s := 0) rfl]
  · intro k hk
    have h2 := hc _ (rw_mem hk)
    unfold D_laws_FnComponents_s2
    rw [bif_dt (by omega), chk_inR (by omega) (by omega), Int.toNat_natCast, has_D big0 (by omega), Option.bind_some]
    by_cases ha : a ∈ rw_ C k
    · rw [decide_eq_true ha, Bool.not_true, bif_false]
      rw [loop_seq (fun j => (j : Int)) xs.length (.inl ()) (by unfold fu0; omega) ?_ ?_ (s := 0) rfl, Option.bind_some]
      · dsimp only; rw [chk_in64 (by omega) (by omega)]; rfl
      · intro j hj
        have h3 := hcl _ (rw_mem hk) ha _ (rd_mem hj)
        unfold D_laws_FnComponents_s3
        rw [bif_dt (by omega), chk_inR (by omega) (by omega), chk_inR (by omega) (by omega), Int.toNat_natCast, Int.toNat_natCast, has_D big0 (by omega), Option.bind_some, decide_eq_true h3, Bool.not_true, bif_false, chk_in64 (by omega) (by omega)]; rfl
      · unfold D_laws_FnComponents_s3
        rw [bif_df (by omega)]
    · rw [decide_eq_false ha, Bool.not_false, bif_true, chk_in64 (by omega) (by omega)]; rfl
  · unfold D_laws_FnComponents_s2
    rw [bif_df (by omega)]
theorem fnComp_law {a : List Int} (hB : U8 a) : D_laws_FnComponents fu0 a = some true := by
  unfold D_laws_FnComponents D_laws_big
  rw [Option.bind_some]
  by_cases hl : 4096 < ((a.length : Nat) : Int)
  · rw [bif_dt hl]
  rw [bif_df hl]
  obtain ⟨n, r, q, x, e1, hn, hr, hq, hx⟩ := chain_D hB (by omega)
  obtain ⟨m, rs, e2, hm, hml, hA⟩ := perfect_D hB (by omega)
  obtain ⟨c1, c2⟩ := compsOf_eqs big0 n hr hq
  obtain ⟨t1, t2⟩ := typeOf_eqs big0 n hr hq
  have x1 := sChain_D big0 n (a := x) hr hq (by omega)
  have x2 := iChain_D big0 n (a := x) hr hq (by omega)
  have p1 := perf_s big0 m hA (by omega)
  have p2 := perf_i big0 m hA (by omega)
  have y1 := typesOf_s big0 m hA (by omega)
  have y2 := typesOf_i big0 m hA (by omega)
  have ysm := typesOf_small big0 m rs
  have hC : ((compsOf n r q).2 = 0 ∧ two n r q = true ∧ compsOf n r q = (comps n.toNat r q, 0) ∧ typeOf n r q = (typ n.toNat r q, 0)) ∨ (compsOf n r q = ([], 2) ∧ typeOf n r q = ([], 2) ∧ two n r q = false) := by
    unfold compsOf typeOf
    cases h : two n r q with
    | true => exact .inl ⟨rfl, rfl, rfl, rfl⟩
    | false => exact .inr ⟨rfl, rfl, rfl⟩
  have hlC : (compsOf n r q).1.length ≤ 14 ∧ ∀ c ∈ (compsOf n r q).1, c.length ≤ 14 := by
    rcases hC with ⟨_, h, e, _⟩ | ⟨e, _⟩
    · rw [e]; have := comps_small big0 h; exact ⟨this.2.1, this.2.2⟩
    · rw [e]; exact ⟨by simp, fun c hc => absurd hc List.not_mem_nil⟩
  have hlK : (typeOf n r q).1.length ≤ 14 := by
    rcases hC with ⟨_, h, _, e⟩ | ⟨_, e, _⟩
    · rw [e]; show (typ n.toNat r q).length ≤ 14; rw [typ_len]; exact (comps_small big0 h).2.1
    · rw [e]; simp
  have hX : (∃ k, k ≤ 14 ∧ two n r q = true ∧ chainOf n r q x = (chl r q x k, 0)) ∨ chainOf n r q x = ([], 2) := by
    unfold chainOf
    cases h : two n r q && inB x 0 (n - 1) with
    | true => exact .inl ⟨_, (chK_spec (chOk_of h)).2.1, by rw [Bool.and_eq_true] at h; exact h.1, rfl⟩
    | false => exact .inr rfl
  have hlX : (chainOf n r q x).1.length ≤ 15 := by
    rcases hX with ⟨k, hk, _, e⟩ | e
    · rw [e]; show (chl r q x k).length ≤ 15; rw [chl_length]; omega
    · rw [e]; simp
  have hP : (isSch m rs = true ∧ perfOf m rs = (prf m rs, 0) ∧ typesOf m rs = (tyP m rs rs.length, 0)) ∨ (perfOf m rs = (false, 1) ∧ typesOf m rs = ([], 1)) := by
    unfold perfOf typesOf
    cases h : isSch m rs with
    | true => exact .inl ⟨rfl, rfl, rfl⟩
    | false => exact .inr ⟨rfl, rfl⟩
  rw [e1, Option.bind_some]; dsimp only
  rw [c2, Option.bind_some, c1, Option.bind_some, t2, Option.bind_some, t1, Option.bind_some, x2, Option.bind_some, x1, Option.bind_some, e2, Option.bind_some]
  rw [bif_nt rfl, rows9_D big0 (by omega) (fun c hc => by have := hlC.2 c hc; omega), Option.bind_some, Bool.not_true, Option.bind_some, bif_false]
  rw [bif_nt rfl, like_D big0 (by omega), Option.bind_some, Bool.not_true, Option.bind_some, bif_false]
  rw [bif_nt rfl, like_D big0 (by omega), Option.bind_some, Bool.not_true, Option.bind_some, bif_false]
  rw [p2, Option.bind_some, p1, Option.bind_some]
  simp only [decide_true, Bool.not_true, beq_self_eq_true, Bool.or_self, bif_false]
  rw [y2, Option.bind_some, y1, Option.bind_some]
  simp only [decide_true, Bool.not_true, bif_false]
  rw [rows9_D big0 (by omega) (fun c hc => by have := ysm.2 c hc; omega), Option.bind_some, Bool.not_true, Option.bind_some, bif_false]
  have fin : ∀ z : Option (Unit ⊕ Bool), z = some (.inl ()) → ∀ g : Unit ⊕ Bool → Option Bool, g (.inl ()) = some true → z.bind g = some true := fun z hz g hg => by rw [hz]; exact hg
  refine fin _ ?_ _ ?_
  · rcases hP with ⟨h, ep, et⟩ | ⟨ep, et⟩
    · rw [ep, et]
      have hs := (isSch_of h).2
      have hh := tyP_half m rs
      have hb : ((rs.length : Nat) : Int) * (((rs.length : Nat) : Int) - 1) ≤ 40 * 40 ∧ -1 ≤ ((rs.length : Nat) : Int) * (((rs.length : Nat) : Int) - 1) := by
        constructor
        · rcases Nat.eq_zero_or_pos rs.length with h0 | h0
          · rw [h0]; decide
          · exact Int.mul_le_mul (by omega) (by omega) (by omega) (by omega)
        · rcases Nat.eq_zero_or_pos rs.length with h0 | h0
          · rw [h0]; decide
          · have := Int.mul_nonneg (a := ((rs.length : Nat) : Int)) (b := ((rs.length : Nat) : Int) - 1) (by omega) (by omega); omega
      have hl2 := tyP_len m hs rs.length
      have hl3 : rs.length * 40 ≤ 40 * 40 := Nat.mul_le_mul_right _ hs
      dsimp only
      rw [bif_dt rfl, bif_nt rfl, chk_in64 (by omega) (by omega), chk_in64 (by omega) (by omega), chk_and (by decide) ⟨by rw [hh]; omega, by rw [hh]; omega⟩, hh]
      simp only [decide_true, Bool.not_true, Option.bind_some, bif_false]
      rw [s0_D h, Option.bind_some]
      simp only [beq_self_eq_true, Bool.not_true, bif_false]
    · rw [ep, et]; rfl
  · rcases hC with ⟨_, h2, ec, ek⟩ | ⟨ec, ek, h2⟩
    · obtain ⟨k1, k2⟩ := comps_K (rndOk_of (two_of h2).1 (by unfold two at h2; rw [Bool.and_eq_true] at h2; exact h2.1)) (rndOk_of (two_of h2).1 (by unfold two at h2; rw [Bool.and_eq_true] at h2; exact h2.2))
      obtain ⟨j1, j2⟩ := typ_sum h2
      have hcs := comps_small big0 h2
      have hn2 := (two_of h2).1
      rw [ec, ek]
      dsimp only
      rw [bif_nt rfl, s1_D (by omega) hcs.2.2, Option.bind_some, k1, bif_nt (by omega), bif_nt rfl, typ_len, bif_nt rfl, sum_D big0 (by rw [typ_len]; omega) j2 (by omega), Option.bind_some, j1]
      simp only [decide_true, Bool.not_true, Option.bind_some, bif_false]
      rcases hX with ⟨k, hk, _, ex⟩ | ex
      · rw [ex]
        dsimp only
        have e0 : rd (chl r q x k) 0 = x := by
          unfold chl; rw [rd_map (by omega)]; rfl
        rw [bif_nt rfl, chl_length, bif_df (by omega), chk_inR (by omega) (by omega), e0]
        simp only [decide_true, Bool.not_true, Option.bind_some, bif_false]
        rw [s2_D (by omega) hcs.2.2 (by rw [chl_length]; omega) (fun c hc ha y hy => by
          unfold chl at hy
          obtain ⟨i, _, rfl⟩ := List.mem_map.1 hy
          exact chn_comp h2 hc ha i), Option.bind_some]
      · rw [ex]; rfl
    · rw [ec, ek]; rfl
end Go.Proofs.Ytdafmafigcljkaa

