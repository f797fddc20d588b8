/-
  Sorting by insertion: what the reference computes. Plain Lean, no program, no condition.
-/
import Derived.Test.YtdafmafigcljkaaDA
import Derived.Test.YtdafmafigcljkaaDTb
import Derived.Test.YtdafmafigcljkaaPuD
namespace Go.Proofs.Ytdafmafigcljkaa
open Go Am
set_option linter.unusedVariables false
set_option linter.unusedSimpArgs false

theorem eq_srt {l xs : List Int} (hp : l.Perm xs) (hs : ∀ i j, i < j → j < l.length → rd l i ≤ rd l j) : l = srt xs := by
  refine List.Perm.eq_of_pairwise (le := (· ≤ ·)) (fun a b _ _ h1 h2 => Int.le_antisymm h1 h2) ?_ (srt_pw xs) (hp.trans (srt_perm xs).symm)
  rw [List.pairwise_iff_getElem]
  intro i j hi hj hij
  rw [rd_get, rd_get]; exact hs i j hij hj
theorem swap_perm {l : List Int} {i j : Nat} (hi : i < l.length) (hj : j < l.length) : ((l.set i (rd l j)).set j (rd l i)).Perm l := by
  have := List.set_set_perm hi hj
  rwa [rd_get, rd_get] at this
/-- the place k is being put in among the first i + 1 -/
structure Ins (l : List Int) (k i : Nat) : Prop where
  le : k ≤ i
  lt : i < l.length
  srt : ∀ a b, a < b → b ≤ i → a ≠ k → b ≠ k → rd l a ≤ rd l b
  hi : ∀ b, k < b → b ≤ i → rd l k ≤ rd l b
theorem ins_loop {fu : Nat} {m : Nat} (hm : m ≤ 4294967296) {xs : List Int} (hx : xs.length = m) : ∀ (k i : Nat) (l : List Int) (g : Nat), l.length = m → Ins l k i → k < g → ∃ l', loopF (D_spec_l02Sorted_s1 fu xs) g (l, (k : Int)) = some l' ∧ l'.Perm l ∧ ∀ a b, a < b → b ≤ i → rd l' a ≤ rd l' b := by
  intro k
  induction k with
  | zero =>
    intro i l g hl h hg
    refine ⟨l, ?_, List.Perm.refl _, fun a b hab hb => ?_⟩
    · obtain ⟨g, rfl⟩ : ∃ g', g = g' + 1 := ⟨g - 1, by omega⟩
      refine loop_out ?_
      unfold D_spec_l02Sorted_s1
      dsimp only
      rw [bif_df (by omega), Option.bind_some, bif_false]
    · by_cases e : a = 0
      · subst e; exact h.hi b hab hb
      · exact h.srt a b hab hb e (by omega)
  | succ k ih =>
    intro i l g hl h hg
    obtain ⟨g, rfl⟩ : ∃ g', g = g' + 1 := ⟨g - 1, by omega⟩
    have h1 := h.le; have h2 := h.lt
    have e1 : (((k + 1 : Nat) : Int) - 1) = (k : Int) := by omega
    by_cases hc : rd l (k + 1) < rd l k
    · have hstep : D_spec_l02Sorted_s1 fu xs (l, ((k + 1 : Nat) : Int)) = some (.go ((l.set (k + 1) (rd l k)).set k (rd l (k + 1)), (k : Int))) := by
        unfold D_spec_l02Sorted_s1
        dsimp only
        rw [bif_dt (by omega)]
        simp (disch := omega) only [chk_inR, chk_in64, e1, Int.toNat_natCast, decide_eq_true hc, Option.bind_some, bif_true]
      have hl' : ((l.set (k + 1) (rd l k)).set k (rd l (k + 1))).length = m := by simpa using hl
      have hget : ∀ a, rd ((l.set (k + 1) (rd l k)).set k (rd l (k + 1))) a = if k = a then rd l (k + 1) else if k + 1 = a then rd l k else rd l a := fun a => by
        rw [rd_set (by rw [List.length_set]; omega), rd_set (by omega)]
      have hI : Ins ((l.set (k + 1) (rd l k)).set k (rd l (k + 1))) k i := by
        refine ⟨by omega, by omega, fun a b hab hb ha hb' => ?_, fun b hkb hb => ?_⟩
        · rw [hget, hget, if_neg (Ne.symm ha), if_neg (Ne.symm hb')]
          by_cases e : k + 1 = a
          · rw [if_pos e, if_neg (by omega)]
            exact h.srt k b (by omega) hb (by omega) (by omega)
          · rw [if_neg e]
            by_cases e2 : k + 1 = b
            · rw [if_pos e2]
              exact h.srt a k (by omega) (by omega) (by omega) (by omega)
            · rw [if_neg e2]
              exact h.srt a b hab hb (by omega) (by omega)
        · rw [hget, hget, if_pos rfl, if_neg (by omega)]
          by_cases e2 : k + 1 = b
          · rw [if_pos e2]; omega
          · rw [if_neg e2]; exact h.hi b (by omega) hb
      obtain ⟨l', r1, r2, r3⟩ := ih i _ g hl' hI (by omega)
      refine ⟨l', ?_, r2.trans (swap_perm (by omega) (by omega)), r3⟩
      rw [loop_go hstep]; exact r1
    · refine ⟨l, ?_, List.Perm.refl _, fun a b hab hb => ?_⟩
      · refine loop_out ?_
        unfold D_spec_l02Sorted_s1
        dsimp only
        rw [bif_dt (by omega)]
        simp (disch := omega) only [chk_inR, chk_in64, e1, Int.toNat_natCast, decide_eq_false hc, Option.bind_some, bif_false]
      · by_cases ea : a = k + 1
        · subst ea; exact h.hi b hab hb
        · by_cases eb : b = k + 1
          · subst eb
            by_cases ek : a = k
            · subst ek; omega
            · have := h.srt a k (by omega) (by omega) (by omega) (by omega)
              omega
          · exact h.srt a b hab hb ea eb
theorem l02Sorted_D {fu : Nat} (hf : Big fu) {xs : List Int} (hl : xs.length ≤ 4294967296) : D_spec_l02Sorted fu xs = some (srt xs) := by
  unfold Big at hf
  have key : ∀ (m i : Nat) (l : List Int) (g : Nat), xs.length ≤ i + m → 0 < i → m < g → l.length = xs.length → l.Perm xs → (∀ a b, a < b → b < i → b < l.length → rd l a ≤ rd l b) → loopF (D_spec_l02Sorted_s0 fu xs) g (l, (i : Int)) = some (srt xs) := by
    intro m
    induction m with
    | zero =>
      intro i l g h0 hi hg hll hp hs
      obtain ⟨g, rfl⟩ : ∃ g', g = g' + 1 := ⟨g - 1, by omega⟩
      rw [loop_out (r := l)]
      · rw [eq_srt hp (fun a b hab hb => hs a b hab (by omega) hb)]
      · unfold D_spec_l02Sorted_s0; dsimp only
        rw [bif_df (by omega)]
    | succ m ih =>
      intro i l g h0 hi hg hll hp hs
      obtain ⟨g, rfl⟩ : ∃ g', g = g' + 1 := ⟨g - 1, by omega⟩
      by_cases hil : i < xs.length
      · obtain ⟨l', r1, r2, r3⟩ := ins_loop (fu := fu) hl rfl i i l fu hll ⟨Nat.le_refl _, by omega, fun a b hab hb _ hb' => hs a b hab (by omega) (by omega), fun b h1 h2 => absurd h1 (by omega)⟩ (by omega)
        rw [loop_go (s' := (l', ((i + 1 : Nat) : Int)))]
        · refine ih (i + 1) l' g (by omega) (by omega) (by omega) (by rw [r2.length_eq, hll]) (r2.trans hp) (fun a b hab hb _ => r3 a b hab (by omega))
        · unfold D_spec_l02Sorted_s0; dsimp only
          rw [bif_dt (by omega), r1, Option.bind_some, chk_in64 (by omega) (by omega)]; rfl
      · rw [loop_out (r := l)]
        · rw [eq_srt hp (fun a b hab hb => hs a b hab (by omega) hb)]
        · unfold D_spec_l02Sorted_s0; dsimp only
          rw [bif_df (by omega)]
  unfold D_spec_l02Sorted D_spec_l01Own
  rw [chk_le (by omega), Option.bind_some]
  have := key xs.length 1 xs fu (by omega) (by omega) (by omega) rfl (List.Perm.refl _) (fun a b hab hb _ => absurd hab (by omega))
  rw [show ((1 : Int)) = ((1 : Nat) : Int) from rfl, this]; rfl
end Go.Proofs.Ytdafmafigcljkaa

