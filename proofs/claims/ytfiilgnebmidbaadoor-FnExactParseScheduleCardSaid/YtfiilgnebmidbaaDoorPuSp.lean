/-
  Texts parted at a byte, and numbers read. Plain Lean, no program, no condition.
-/
import Derived.Test.YtfiilgnebmidbaaDoorDH
import Derived.Test.YtfiilgnebmidbaaDoorDPa
import Derived.Lib.SplitLaws
import Derived.Lib.IndexBytes
import Derived.Test.YtfiilgnebmidbaaDoorPuTx
namespace Go.Proofs.YtfiilgnebmidbaaDoor
open Go Am
set_option linter.unusedVariables false
set_option linter.unusedSimpArgs false

def consH (x : UInt8) : List (List UInt8) → List (List UInt8)
  | [] => [[x]]
  | p :: ps => (x :: p) :: ps
/-- the parts of a text between the bytes c -/
def spl (c : UInt8) : List UInt8 → List (List UInt8)
  | [] => [[]]
  | x :: r => if x = c then [] :: spl c r else consH x (spl c r)
theorem spl_ne (c : UInt8) (l : List UInt8) : spl c l ≠ [] := by
  cases l with
  | nil => simp [spl]
  | cons x r =>
    unfold spl
    split
    · simp
    · cases spl c r <;> simp [consH]
theorem spl_none {c : UInt8} : ∀ {a : List UInt8}, c ∉ a → spl c a = [a]
  | [], _ => rfl
  | x :: r, h => by
    have h1 : x ≠ c := fun e => h (by simp [e])
    have h2 : c ∉ r := fun e => h (by simp [e])
    unfold spl
    rw [if_neg h1, spl_none h2]; rfl
theorem spl_app {c : UInt8} {b : List UInt8} : ∀ {a : List UInt8}, c ∉ a → spl c (a ++ c :: b) = a :: spl c b
  | [], _ => by simp [spl]
  | x :: r, h => by
    have h1 : x ≠ c := fun e => h (by simp [e])
    have h2 : c ∉ r := fun e => h (by simp [e])
    show (if x = c then [] :: spl c (r ++ c :: b) else consH x (spl c (r ++ c :: b))) = _
    rw [if_neg h1, spl_app h2]; rfl
theorem part_first {c : UInt8} {l : List UInt8} (h : c ∈ l) : ∃ a b, l = a ++ c :: b ∧ c ∉ a := by
  obtain ⟨a, b, h1, h2⟩ := List.eq_append_cons_of_mem h
  exact ⟨a, b, h1, h2⟩
theorem spl_join {c : UInt8} : ∀ {ps : List (List UInt8)}, ps ≠ [] → (∀ p ∈ ps, c ∉ p) → spl c (Go.Lib.join ps [c]) = ps
  | [], h, _ => absurd rfl h
  | [p], _, h => by rw [Go.Lib.join_one]; exact spl_none (h p (by simp))
  | p :: q :: ps, _, h => by
    have e : Go.Lib.join (p :: q :: ps) [c] = p ++ c :: Go.Lib.join (q :: ps) [c] := by
      rw [Go.Lib.join_cons, Go.Lib.join_cons]; simp [Go.Lib.joinTail]
    rw [e, spl_app (h p (by simp)), spl_join (by simp) (fun x hx => h x (by simp [hx]))]
theorem join_spl (c : UInt8) : ∀ (l : List UInt8), Go.Lib.join (spl c l) [c] = l := by
  intro l
  induction hn : l.length using Nat.strongRecOn generalizing l with
  | ind n ih =>
    by_cases h : c ∈ l
    · obtain ⟨a, b, rfl, ha⟩ := part_first h
      rw [spl_app ha]
      have := ih b.length (by rw [← hn]; simp; omega) b rfl
      cases hb : spl c b with
      | nil => exact absurd hb (spl_ne _ _)
      | cons q ps =>
        rw [hb] at this
        rw [Go.Lib.join_cons] at this ⊢
        rw [← this]; simp [Go.Lib.joinTail]
    · rw [spl_none h, Go.Lib.join_one]
theorem spl_free (c : UInt8) : ∀ (l : List UInt8), ∀ p ∈ spl c l, c ∉ p := by
  intro l
  induction hn : l.length using Nat.strongRecOn generalizing l with
  | ind n ih =>
    by_cases h : c ∈ l
    · obtain ⟨a, b, rfl, ha⟩ := part_first h
      rw [spl_app ha]
      intro p hp
      rcases List.mem_cons.1 hp with rfl | hp
      · exact ha
      · exact ih b.length (by rw [← hn]; simp; omega) b rfl p hp
    · rw [spl_none h]
      intro p hp
      rw [List.mem_singleton.1 hp]; exact h
theorem spl_sub (c : UInt8) : ∀ (l : List UInt8), ∀ p ∈ spl c l, p.length ≤ l.length := by
  intro l
  induction hn : l.length using Nat.strongRecOn generalizing l with
  | ind n ih =>
    by_cases h : c ∈ l
    · obtain ⟨a, b, rfl, ha⟩ := part_first h
      rw [spl_app ha]
      intro p hp
      rcases List.mem_cons.1 hp with rfl | hp
      · rw [← hn]; simp
      · have := ih b.length (by rw [← hn]; simp; omega) b rfl p hp
        rw [← hn]; simp; omega
    · rw [spl_none h]
      intro p hp
      rw [List.mem_singleton.1 hp, hn]
      exact Nat.le_refl _
theorem spl_len (c : UInt8) : ∀ (l : List UInt8), (spl c l).length = l.count c + 1 := by
  intro l
  induction hn : l.length using Nat.strongRecOn generalizing l with
  | ind n ih =>
    by_cases h : c ∈ l
    · obtain ⟨a, b, rfl, ha⟩ := part_first h
      rw [spl_app ha, List.length_cons, ih b.length (by rw [← hn]; simp; omega) b rfl, List.count_append, List.count_cons_self, List.count_eq_zero_of_not_mem ha]; omega
    · rw [spl_none h, List.count_eq_zero_of_not_mem h]; rfl
theorem spl_le (c : UInt8) (l : List UInt8) : (spl c l).length ≤ l.length + 1 := by
  rw [spl_len]; have := List.count_le_length (a := c) (l := l); omega
theorem index_app {c : UInt8} {b : List UInt8} : ∀ {a : List UInt8}, c ∉ a → Go.Lib.index (a ++ c :: b) [c] = a.length
  | [], _ => by rw [Go.Lib.index_one]; simp [Go.Lib.indexByte]
  | x :: r, h => by
    have h1 : x ≠ c := fun e => h (by simp [e])
    have h2 : c ∉ r := fun e => h (by simp [e])
    have ih := index_app (b := b) h2
    rw [Go.Lib.index_one] at ih ⊢
    rw [List.cons_append]
    unfold Go.Lib.indexByte
    have e : (x == c) = false := by simpa using h1
    rw [e, ih, List.length_cons]
    have e2 : (((r.length : Nat) : Int) == -1) = false := beq_eq_false_iff_ne.2 (by omega)
    rw [e2]; simp
theorem index_none {c : UInt8} : ∀ {a : List UInt8}, c ∉ a → Go.Lib.index a [c] = -1
  | [], _ => rfl
  | x :: r, h => by
    have h1 : x ≠ c := fun e => h (by simp [e])
    have h2 : c ∉ r := fun e => h (by simp [e])
    have ih := index_none h2
    rw [Go.Lib.index_one] at ih ⊢
    unfold Go.Lib.indexByte
    have e : (x == c) = false := by simpa using h1
    rw [e, ih]; rfl
theorem splitK_one (c : UInt8) : ∀ (l : List UInt8), Go.Lib.splitK [c] 0 (l.count c) l = spl c l := by
  intro l
  induction hn : l.length using Nat.strongRecOn generalizing l with
  | ind n ih =>
    by_cases h : c ∈ l
    · obtain ⟨a, b, rfl, ha⟩ := part_first h
      have e : (a ++ c :: b).count c = b.count c + 1 := by rw [List.count_append, List.count_cons_self, List.count_eq_zero_of_not_mem ha]; omega
      have e2 : ((((a.length : Nat) : Int)) == -1) = false := beq_eq_false_iff_ne.2 (by omega)
      rw [e, spl_app ha]
      unfold Go.Lib.splitK
      rw [index_app ha, e2]
      simp only [Bool.false_eq_true, if_false, Int.toNat_natCast, Nat.add_zero, List.length_singleton]
      rw [List.take_left' rfl, show (a ++ c :: b).drop (a.length + 1) = b by rw [show a ++ c :: b = (a ++ [c]) ++ b by simp, List.drop_left' (by simp)], ih b.length (by rw [← hn]; simp; omega) b rfl]
    · rw [spl_none h, List.count_eq_zero_of_not_mem h]; rfl
theorem cut_some {c : UInt8} {a b : List UInt8} (ha : c ∉ a) : Go.Lib.cut (a ++ c :: b) [c] = (a, b, true) := by
  unfold Go.Lib.cut
  rw [index_app ha, if_pos (by omega), Int.toNat_natCast, List.take_left' rfl, List.length_singleton, show (a ++ c :: b).drop (a.length + 1) = b by rw [show a ++ c :: b = (a ++ [c]) ++ b by simp, List.drop_left' (by simp)]]
theorem cut_none {c : UInt8} {l : List UInt8} (h : c ∉ l) : Go.Lib.cut l [c] = (l, [], false) := by
  unfold Go.Lib.cut
  rw [index_none h, if_neg (by decide)]
/-! what the library and the reference make of it -/
theorem toB_data2 (s : ByteArray) : toB s.data.toList = s := by
  apply ByteArray.ext; simp [toB]
theorem Split_D {fu : Nat} {l : List UInt8} (c : UInt8) (hl : l.length ≤ 2000000) : D_strings_Split fu (toB l) (toB [c]) = some ((spl c l).map toB) := by
  unfold D_strings_Split
  rw [chk_t ⟨by rw [toB_size]; omega, by rw [toB_size]; simp⟩]
  have h1 := Go.Lib.splitB_data (toB [c]) 0 (Go.Lib.countB (toB l) (toB [c])) (toB l)
  unfold Go.Lib.countB at h1 ⊢
  rw [toB_data, toB_data] at *
  rw [Go.Lib.count_one] at *
  rw [splitK_one] at h1
  rw [← h1, List.map_map]
  congr 1
  exact ((List.map_congr_left (fun x _ => toB_data2 x)).trans (List.map_id _)).symm
theorem Cut_D {fu : Nat} {l : List UInt8} (c : UInt8) (hl : l.length ≤ 2000000) : D_strings_Cut fu (toB l) (toB [c]) = some (toB (Go.Lib.cut l [c]).1, toB (Go.Lib.cut l [c]).2.1, (Go.Lib.cut l [c]).2.2) := by
  unfold D_strings_Cut
  rw [chk_t (by rw [toB_size]; omega), toB_data, toB_data]; rfl
theorem sby_D {l : List UInt8} {k : Nat} : sby (toB l) k = ((l.getD k 0).toNat : Int) := by unfold sby; rw [toB_data]
theorem extract_D {l : List UInt8} {i j : Nat} : (toB l).extract i j = toB ((l.take j).drop i) := by
  apply ByteArray.ext
  apply Array.ext'
  simp [toB, ByteArray.data_extract]
  rw [List.drop_take]
/-- the parts that lie whole ahead of place k, and where the part begins that is open there -/
def pst (c : UInt8) (l : List UInt8) : Nat → List (List UInt8) × Nat
  | 0 => ([], 0)
  | k + 1 => if l.getD k 0 = c then ((pst c l k).1 ++ [(l.take k).drop (pst c l k).2], k + 1) else pst c l k
theorem spl_snoc {c x : UInt8} : ∀ {l : List UInt8} {o : List (List UInt8)} {cur : List UInt8}, spl c l = o ++ [cur] → spl c (l ++ [x]) = if x = c then o ++ [cur, []] else o ++ [cur ++ [x]] := by
  intro l
  induction hn : l.length using Nat.strongRecOn generalizing l with
  | ind n ih =>
    intro o cur h
    by_cases hc : c ∈ l
    · obtain ⟨a, b, rfl, ha⟩ := part_first hc
      rw [spl_app ha] at h
      rw [List.append_assoc, List.cons_append, spl_app ha]
      cases o with
      | nil =>
        have := congrArg List.length h
        simp at this
        exact absurd this (spl_ne c b)
      | cons p o =>
        rw [List.cons_append] at h
        obtain ⟨rfl, h2⟩ := List.cons.inj h
        rw [ih b.length (by rw [← hn]; simp; omega) rfl h2]
        split <;> rfl
    · rw [spl_none hc] at h
      cases o with
      | nil =>
        obtain rfl : l = cur := by simpa using h
        by_cases hx : x = c
        · subst hx
          rw [if_pos rfl, spl_app hc]; rfl
        · rw [if_neg hx, spl_none (by simp [hc, Ne.symm hx])]; rfl
      | cons p o =>
        have := congrArg List.length h
        simp at this
theorem pst_ok {c : UInt8} {l : List UInt8} : ∀ k, k ≤ l.length → (pst c l k).2 ≤ k ∧ (pst c l k).1.length ≤ k ∧ spl c (l.take k) = (pst c l k).1 ++ [(l.take k).drop (pst c l k).2]
  | 0, _ => by simp [pst, spl]
  | k + 1, h => by
    obtain ⟨h1, h2, h3⟩ := pst_ok (c := c) (l := l) k (by omega)
    have hx : l[k]? = some (l.getD k 0) := by rw [List.getD_eq_getElem?_getD, List.getElem?_eq_getElem (by omega)]; rfl
    have ht : l.take (k + 1) = l.take k ++ [l.getD k 0] := take_app hx
    have hs := spl_snoc (x := l.getD k 0) h3
    unfold pst
    rw [ht, hs]
    by_cases e : l.getD k 0 = c
    · rw [if_pos e, if_pos e]
      refine ⟨Nat.le_refl _, by simp; omega, ?_⟩
      have hd : (l.take k ++ [l.getD k 0]).drop (k + 1) = [] := List.drop_of_length_le (by simp; omega)
      simp [hd]
      exact Nat.min_le_left _ _
    · rw [if_neg e, if_neg e]
      refine ⟨by omega, by omega, ?_⟩
      rw [List.drop_append_of_le_length (by rw [List.length_take]; omega)]
theorem l01Split_D {fu : Nat} (hf : Big fu) {l : List UInt8} (c : UInt8) (hl : l.length ≤ 2000000) : D_spec_l01Split fu (toB l) (c.toNat : Int) = some ((spl c l).map toB) := by
  unfold Big at hf
  unfold D_spec_l01Split
  have hE := pst_ok (c := c) (l := l) l.length (Nat.le_refl _)
  rw [loop_seq (fun k => ((pst c l k).1.map toB, ((pst c l k).2 : Int), (k : Int))) l.length ((pst c l l.length).1.map toB, ((pst c l l.length).2 : Int)) (by omega) ?_ ?_ (s := ([], 0, 0)) rfl, Option.bind_some]
  · dsimp only
    rw [chk_t ⟨by omega, by rw [toB_size]; omega⟩, chk_le (by rw [List.length_map]; omega), Int.toNat_natCast, extract_D, toB_size]
    have h3 := hE.2.2
    rw [List.take_of_length_le (Nat.le_refl _)] at h3
    rw [h3, List.take_of_length_le (Nat.le_refl _)]
    simp
  · intro k hk
    obtain ⟨h1, h2, _⟩ := pst_ok (c := c) (l := l) k (by omega)
    have hlm : ((pst c l k).1.map toB).length ≤ 2000000 := by rw [List.length_map]; omega
    have hc3 : (0 : Int) ≤ ((pst c l k).2 : Int) ∧ ((pst c l k).2 : Int) ≤ (k : Int) ∧ (k : Int) ≤ (((toB l).size : Nat) : Int) := ⟨by omega, by omega, by rw [toB_size]; omega⟩
    unfold D_spec_l01Split_s0; dsimp only
    rw [bif_dt (by rw [toB_size]; omega), chk_inR (by omega) (by rw [toB_size]; omega), Int.toNat_natCast, Int.toNat_natCast, sby_D]
    by_cases e : l.getD k 0 = c
    · rw [bif_dt (by rw [e]), chk_t hc3, chk_le (by omega), chk_in64 (by omega) (by omega), chk_in64 (by omega) (by omega), extract_D]
      conv => rhs; unfold pst
      rw [if_pos e]; simp
    · rw [bif_df (by intro h; apply e; have : (l.getD k 0).toNat = c.toNat := by omega
                     exact UInt8.toNat_inj.1 this), chk_in64 (by omega) (by omega)]
      conv => rhs; unfold pst
      rw [if_neg e]; rfl
  · unfold D_spec_l01Split_s0; dsimp only
    rw [bif_df (by rw [toB_size]; omega)]
end Go.Proofs.YtfiilgnebmidbaaDoor

