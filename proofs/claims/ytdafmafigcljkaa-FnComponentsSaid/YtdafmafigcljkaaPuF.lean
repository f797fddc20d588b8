/-
  The components of two rounds: what program and reference compute. Plain Lean, no program, no condition.
-/
import Derived.Test.YtdafmafigcljkaaDSo
import Derived.Test.YtdafmafigcljkaaDTb
import Derived.Test.YtdafmafigcljkaaPuA
import Derived.Test.YtdafmafigcljkaaPuRO
import Derived.Test.YtdafmafigcljkaaPuN
namespace Go.Proofs.Ytdafmafigcljkaa
open Go Am
set_option linter.unusedVariables false
set_option linter.unusedSimpArgs false

/-- a team is met -/
def vst (s : List Bool × List Int) (b : Int) : List Bool × List Int := if rdb s.1 b.toNat then s else (s.1.set b.toNat true, s.2 ++ [b])
def bst (r q : List Int) (s : List Bool × List Int) (y : Int) : List Bool × List Int := vst (vst s (rd r y.toNat)) (rd q y.toNat)
def bfs (r q : List Int) : Nat → List Bool × List Int → Nat → List Bool × List Int
  | 0, s, _ => s
  | k + 1, s, i => if i < s.2.length then bfs r q k (bst r q s (rd s.2 i)) (i + 1) else s
structure Bi (n : Nat) (s : List Bool × List Int) : Prop where
  len : s.1.length = n
  nd : s.2.Nodup
  mem : ∀ x ∈ s.2, 0 ≤ x ∧ x < n ∧ rdb s.1 x.toNat = true
theorem nd_le {n : Nat} {l : List Int} (h : l.Nodup) (hm : ∀ x ∈ l, 0 ≤ x ∧ x < n) : l.length ≤ n := by
  have h1 : (l.map Int.toNat).Nodup := by
    rw [List.Nodup, List.pairwise_map]
    refine List.Pairwise.imp_of_mem (fun {a b} ha hb hab e => hab ?_) h
    have := hm a ha; have := hm b hb; omega
  have h2 : (l.map Int.toNat) ⊆ List.range n := fun x hx => by
    obtain ⟨y, hy, rfl⟩ := List.mem_map.1 hx
    have := hm y hy
    exact List.mem_range.2 (by omega)
  have := List.Nodup.length_le_of_subset h1 h2
  simpa using this
theorem Bi.le {n : Nat} {s : List Bool × List Int} (h : Bi n s) : s.2.length ≤ n := nd_le h.nd fun x hx => ⟨(h.mem x hx).1, (h.mem x hx).2.1⟩
theorem Bi.vst {n : Nat} {s : List Bool × List Int} (h : Bi n s) {b : Int} (hb : 0 ≤ b ∧ b < n) : Bi n (vst s b) := by
  unfold Go.Proofs.Ytdafmafigcljkaa.vst
  by_cases e : rdb s.1 b.toNat = true
  · rw [if_pos e]; exact h
  · rw [if_neg e]
    have hl := h.len
    refine ⟨by simpa using hl, ?_, fun x hx => ?_⟩
    · rw [List.Nodup, List.pairwise_append]
      refine ⟨h.nd, List.pairwise_singleton _ _, fun a ha c hc e' => ?_⟩
      rw [List.mem_singleton.1 hc] at e'
      subst e'
      exact e (h.mem _ ha).2.2
    · rw [rdb_set (by omega)]
      rcases List.mem_append.1 hx with hx | hx
      · have := h.mem x hx
        refine ⟨this.1, this.2.1, ?_⟩
        split
        · rfl
        · exact this.2.2
      · rw [List.mem_singleton.1 hx, if_pos rfl]; exact ⟨hb.1, hb.2, rfl⟩
def Inn (n : Nat) (r : List Int) : Prop := ∀ j, j < n → 0 ≤ rd r j ∧ rd r j < n
theorem Bi.bst {n : Nat} {s : List Bool × List Int} (h : Bi n s) {r q : List Int} (hr : Inn n r) (hq : Inn n q) {y : Int} (hy : 0 ≤ y ∧ y < n) : Bi n (bst r q s y) := (h.vst (hr _ (by omega))).vst (hq _ (by omega))
theorem vst_len (s : List Bool × List Int) (b : Int) : (vst s b).2.length ≤ s.2.length + 1 := by
  unfold vst; split <;> simp
theorem comp_s2 {fu : Nat} (hf : Big fu) {n : Nat} (hn : n ≤ 14) {r q : List Int} (hr : Inn n r) (hq : Inn n q) {xs : List Int} {i : Nat} (hi : i < xs.length) (hy : 0 ≤ rd xs i ∧ rd xs i < n) {s : List Bool × List Int} (h : Bi n s) :
    loopF (D_impl_components_s2 fu (n : Int) r q xs (i : Int)) fu (s.1, s.2, 0) = some (bst r q s (rd xs i)) := by
  unfold Big at hf
  have a1 := hr (rd xs i).toNat (by omega)
  have a2 := hq (rd xs i).toNat (by omega)
  have l0 := h.le
  have l1 := vst_len s (rd r (rd xs i).toNat)
  have h1 := h.vst a1
  have k1 := h.len
  have k2 := h1.len
  refine loop_seq (fun k => if k = 0 then (s.1, s.2, 0) else if k = 1 then ((vst s (rd r (rd xs i).toNat)).1, (vst s (rd r (rd xs i).toNat)).2, 1) else ((bst r q s (rd xs i)).1, (bst r q s (rd xs i)).2, 2)) 2 _ (by omega) ?_ ?_ rfl
  · intro k hk
    have e0 : rd [rd r (rd xs i).toNat, rd q (rd xs i).toNat] 0 = rd r (rd xs i).toNat := rfl
    have e1 : rd [rd r (rd xs i).toNat, rd q (rd xs i).toNat] 1 = rd q (rd xs i).toNat := rfl
    by_cases ek : k = 0
    · subst ek
      simp only [if_true, Nat.zero_add, if_neg (by decide : ¬ (1 = 0))]
      unfold D_impl_components_s2; dsimp only
      rw [bif_dt (by omega), chk_inR (by omega) (by omega)]
      simp only [Int.toNat_natCast, Int.toNat_zero, e0]
      rw [chk_inR (by omega) (by omega)]
      unfold Go.Proofs.Ytdafmafigcljkaa.vst
      cases hb : rdb s.1 (rd r (rd xs i).toNat).toNat with
      | true => simp only [if_true, Bool.not_true, bif_false]; rw [chk_in64 (by omega) (by omega)]; rfl
      | false => simp only [Bool.false_eq_true, if_false, Bool.not_false, bif_true]; rw [chk_inR (by omega) (by omega), chk_le (by omega), chk_in64 (by omega) (by omega)]; rfl
    · obtain rfl : k = 1 := by omega
      simp only [if_true, if_neg (by decide : ¬ (1 = 0)), if_neg (by decide : ¬ (1 + 1 = 0)), if_neg (by decide : ¬ (1 + 1 = 1))]
      unfold Go.Proofs.Ytdafmafigcljkaa.bst
      generalize hs' : Go.Proofs.Ytdafmafigcljkaa.vst s (rd r (rd xs i).toNat) = s' at h1 k2 l1
      unfold D_impl_components_s2; dsimp only
      rw [bif_dt (by omega), chk_inR (by omega) (by omega)]
      simp only [Int.toNat_natCast, Int.toNat_one, e1]
      rw [chk_inR (by omega) (by omega)]
      unfold Go.Proofs.Ytdafmafigcljkaa.vst
      cases hb : rdb s'.1 (rd q (rd xs i).toNat).toNat with
      | true => simp only [if_true, Bool.not_true, bif_false]; rw [chk_in64 (by omega) (by omega)]; rfl
      | false => simp only [Bool.false_eq_true, if_false, Bool.not_false, bif_true]; rw [chk_inR (by omega) (by omega), chk_le (by omega), chk_in64 (by omega) (by omega)]; rfl
  · simp only [if_neg (by decide : ¬ (2 = 0)), if_neg (by decide : ¬ (2 = 1))]
    unfold D_impl_components_s2; dsimp only
    rw [bif_df (by omega)]
theorem rd_mem' {l : List Int} {k : Nat} (h : k < l.length) : rd l k ∈ l := by
  rw [← rd_get h]; exact List.getElem_mem h
theorem comp_s1 {fu : Nat} (hf : Big fu) {n : Nat} (hn : n ≤ 14) {r q : List Int} (hr : Inn n r) (hq : Inn n q) : ∀ (k i : Nat) (s : List Bool × List Int) (g : Nat), n ≤ i + k → k < g → Bi n s →
    loopF (D_impl_components_s1 fu (n : Int) r q) g (s.1, s.2, (i : Int)) = some (bfs r q k s i) ∧ Bi n (bfs r q k s i) := by
  intro k
  induction k with
  | zero =>
    intro i s g hi hg h
    obtain ⟨g, rfl⟩ : ∃ g', g = g' + 1 := ⟨g - 1, by omega⟩
    have := h.le
    refine ⟨loop_out ?_, h⟩
    unfold D_impl_components_s1; dsimp only
    rw [bif_df (by omega)]; rfl
  | succ k ih =>
    intro i s g hi hg h
    obtain ⟨g, rfl⟩ : ∃ g', g = g' + 1 := ⟨g - 1, by omega⟩
    have hle := h.le
    unfold bfs
    by_cases hil : i < s.2.length
    · rw [if_pos hil]
      have hm := h.mem _ (rd_mem' hil)
      have hb := h.bst hr hq (y := rd s.2 i) ⟨hm.1, hm.2.1⟩
      rw [loop_go (s' := ((bst r q s (rd s.2 i)).1, (bst r q s (rd s.2 i)).2, ((i + 1 : Nat) : Int)))]
      · exact ih (i + 1) _ g (by omega) (by omega) hb
      · unfold D_impl_components_s1; dsimp only
        rw [bif_dt (by omega), chk_inR (by omega) (by omega)]
        simp only [Int.toNat_natCast]
        rw [chk_inR (by omega) (by omega), chk_inR (by omega) (by omega), chk_inR (by omega) (by omega), comp_s2 hf hn hr hq hil ⟨hm.1, hm.2.1⟩ h, Option.bind_some, chk_in64 (by omega) (by omega)]; rfl
    · rw [if_neg hil]
      refine ⟨loop_out ?_, h⟩
      unfold D_impl_components_s1; dsimp only
      rw [bif_df (by omega)]
/-- the components of the first k teams -/
def cst (n : Nat) (r q : List Int) : Nat → List (List Int) × List Bool
  | 0 => ([], List.replicate n false)
  | k + 1 => if rdb (cst n r q k).2 k then cst n r q k else ((cst n r q k).1 ++ [srt (bfs r q n ((cst n r q k).2.set k true, [(k : Int)]) 0).2], (bfs r q n ((cst n r q k).2.set k true, [(k : Int)]) 0).1)
theorem bi_one {n k : Nat} {bs : List Bool} (hl : bs.length = n) (hk : k < n) : Bi n (bs.set k true, [(k : Int)]) := by
  refine ⟨by simpa using hl, List.pairwise_singleton _ _, fun x hx => ?_⟩
  rw [List.mem_singleton.1 hx]
  refine ⟨by omega, by omega, ?_⟩
  rw [Int.toNat_natCast]
  show rdb (bs.set k true) k = true
  rw [rdb_set (by omega), if_pos rfl]
theorem cst_inv {fu : Nat} (hf : Big fu) {n : Nat} (hn : n ≤ 14) {r q : List Int} (hr : Inn n r) (hq : Inn n q) : ∀ k, k ≤ n → (cst n r q k).2.length = n ∧ (cst n r q k).1.length ≤ k ∧ (0 < k → 0 < (cst n r q k).1.length) ∧ ∀ c ∈ (cst n r q k).1, c.length ≤ n := by
  intro k
  induction k with
  | zero => intro _; exact ⟨by simp [cst], by simp [cst], fun h => absurd h (by omega), fun c hc => by simp [cst] at hc⟩
  | succ k ih =>
    intro hk
    obtain ⟨h1, h2, h3, h4⟩ := ih (by omega)
    have hb := (comp_s1 hf hn hr hq n 0 _ fu (by omega) (by unfold Big at hf; omega) (bi_one (n := n) (k := k) h1 (by omega))).2
    unfold cst
    by_cases e : rdb (cst n r q k).2 k = true
    · rw [if_pos e]
      refine ⟨h1, by omega, fun _ => ?_, h4⟩
      by_cases e0 : k = 0
      · subst e0
        simp [cst, rdb, List.getD_eq_getElem?_getD] at e
        rw [List.getElem?_replicate] at e
        split at e <;> simp at e
      · exact h3 (by omega)
    · rw [if_neg e]
      refine ⟨hb.len, by simp; omega, fun _ => by simp, fun c hc => ?_⟩
      rcases List.mem_append.1 hc with hc | hc
      · exact h4 c hc
      · rw [List.mem_singleton.1 hc, srt_len]; exact hb.le
def comps (n : Nat) (r q : List Int) : List (List Int) := (cst n r q n).1
theorem Sort_D {fu : Nat} {xs : List Int} (hl : xs.length ≤ 4294967296) : D_slices_Sort_Sint64_int64 fu xs = some (srt xs) := by
  unfold D_slices_Sort_Sint64_int64; rw [chk_le hl]; first | rfl | (rw [isort_eq]; rfl)
theorem Reverse_D {fu : Nat} {xs : List Int} (hl : xs.length ≤ 4294967296) : D_slices_Reverse_Sint64_int64 fu xs = some xs.reverse := by
  unfold D_slices_Reverse_Sint64_int64; rw [chk_le hl]
theorem components_D {fu : Nat} (hf : Big fu) {n : Nat} (hn : n ≤ 14) {r q : List Int} (hr : Inn n r) (hq : Inn n q) : D_impl_components fu (n : Int) r q = some (comps n r q) := by
  unfold D_impl_components
  have hf' := hf
  unfold Big at hf
  rw [chk_and (by omega) (by omega), Int.toNat_natCast, loop_seq (fun k => ((cst n r q k).1, (cst n r q k).2, (k : Int))) n (comps n r q) (by omega) ?_ ?_ (s := ([], List.replicate n false, 0)) rfl]; rfl
  · intro k hk
    obtain ⟨h1, h2, _, h4⟩ := cst_inv hf' hn hr hq k (by omega)
    have hb := comp_s1 hf' hn hr hq n 0 _ fu (by omega) (by omega) (bi_one (n := n) (k := k) h1 (by omega))
    have hc := hb.2.le
    unfold D_impl_components_s0; dsimp only
    rw [bif_dt (by omega), Int.toNat_natCast, Int.toNat_natCast, chk_inR (by omega) (by omega)]
    conv => rhs; unfold cst
    cases e : rdb (cst n r q k).2 k with
    | true => rw [bif_true, chk_in64 (by omega) (by omega), if_pos rfl]; rfl
    | false =>
      rw [bif_false, chk_inR (by omega) (by omega), if_neg (by simp)]
      have h9 : loopF (D_impl_components_s1 fu (n : Int) r q) fu ((cst n r q k).2.set k true, [(k : Int)], 0) = _ := hb.1
      rw [h9, Option.bind_some]
      dsimp only
      rw [Sort_D (by omega), Option.bind_some, chk_le (by omega), chk_in64 (by omega) (by omega)]; rfl
  · unfold D_impl_components_s0; dsimp only
    rw [bif_df (by omega)]; rfl
theorem l02Components_D {fu : Nat} (hf : Big fu) {n : Nat} (hn : n ≤ 14) {r q : List Int} (hr : Inn n r) (hq : Inn n q) : D_spec_l02Components fu (n : Int) r q = some (comps n r q) := by
  unfold D_spec_l02Components
  have hf' := hf
  unfold Big at hf
  have es1 : D_spec_l02Components_s1 fu (n : Int) r q = D_impl_components_s1 fu (n : Int) r q := rfl
  rw [chk_and (by omega) (by omega), Int.toNat_natCast, loop_seq (fun k => ((cst n r q k).1, (cst n r q k).2, (k : Int))) n (comps n r q) (by omega) ?_ ?_ (s := ([], List.replicate n false, 0)) rfl]; rfl
  · intro k hk
    obtain ⟨h1, h2, _, h4⟩ := cst_inv hf' hn hr hq k (by omega)
    have hb := comp_s1 hf' hn hr hq n 0 _ fu (by omega) (by omega) (bi_one (n := n) (k := k) h1 (by omega))
    have hc := hb.2.le
    unfold D_spec_l02Components_s0; dsimp only
    rw [bif_dt (by omega), Int.toNat_natCast, Int.toNat_natCast, chk_inR (by omega) (by omega), es1]
    conv => rhs; unfold cst
    cases e : rdb (cst n r q k).2 k with
    | true => rw [bif_true, chk_in64 (by omega) (by omega), if_pos rfl]; rfl
    | false =>
      rw [bif_false, chk_inR (by omega) (by omega), if_neg (by simp)]
      have h9 : loopF (D_impl_components_s1 fu (n : Int) r q) fu ((cst n r q k).2.set k true, [(k : Int)], 0) = _ := hb.1
      rw [h9, Option.bind_some]
      dsimp only
      rw [l02Sorted_D hf' (by omega), Option.bind_some, chk_le (by omega), chk_in64 (by omega) (by omega)]; rfl
  · unfold D_spec_l02Components_s0; dsimp only
    rw [bif_df (by omega)]; rfl
theorem comps_len {fu : Nat} (hf : Big fu) {n : Nat} (hn : n ≤ 14) {r q : List Int} (hr : Inn n r) (hq : Inn n q) : (comps n r q).length ≤ n ∧ (0 < n → 0 < (comps n r q).length) ∧ ∀ c ∈ comps n r q, c.length ≤ n := (cst_inv hf hn hr hq n (Nat.le_refl _)).2
end Go.Proofs.Ytdafmafigcljkaa

