/-
  SquareText: what program and reference compute, and the law. Plain Lean, no program, no condition.
-/
import Derived.Test.YtfiilgnebmidbaaDoorDF
import Derived.Test.YtfiilgnebmidbaaDoorDX
import Derived.Test.YtfiilgnebmidbaaDoorPuTx
namespace Go.Proofs.YtfiilgnebmidbaaDoor
open Go Am
set_option linter.unusedVariables false
set_option linter.unusedSimpArgs false

theorem e44 : (⟨#[44]⟩ : ByteArray) = toB [44] := rfl
theorem e45 : (⟨#[45]⟩ : ByteArray) = toB [45] := rfl
theorem e46 : (⟨#[46]⟩ : ByteArray) = toB [46] := rfl
theorem e58 : (⟨#[58]⟩ : ByteArray) = toB [58] := rfl
theorem e59 : (⟨#[59]⟩ : ByteArray) = toB [59] := rfl
theorem chkS {α : Type} {a b : List UInt8} {k : Option α} (h : a.length + b.length ≤ 4000000) : chk ((toB a).size + (toB b).size ≤ 9223372036854775807) k = k := chk_t (by rw [toB_size, toB_size]; omega)
theorem chkL {α : Type} {a : List UInt8} {B : ByteArray} {s : UInt8} {k : Option α} (hB : B = toB [s]) (h : a.length ≤ 2000000) : chk ((toB a).size + B.size ≤ 9223372036854775807) k = k := chk_t (by rw [hB, toB_size, toB_size]; simp; omega)
theorem appL {a : List UInt8} {B : ByteArray} {s : UInt8} (hB : B = toB [s]) : toB a ++ B = toB (a ++ [s]) := by rw [hB, toB_app]
theorem sep_D {B : ByteArray} {s : UInt8} (hB : B = toB [s]) {a : List UInt8} {k : Nat} (ha : a.length ≤ 2000000) : (bif decide (0 < (k : Int)) then chk ((toB a).size + B.size ≤ 9223372036854775807) <| some (toB a ++ B) else some (toB a)) = some (toB (if 0 < k then a ++ [s] else a)) := by
  by_cases h : 0 < k
  · rw [bif_dt (by omega), if_pos h, chkL hB ha, appL hB]
  · rw [bif_df (by omega), if_neg h]
def okC (c : Int) : Prop := -1 ≤ c ∧ c ≤ 195
def wd (c : Int) : List UInt8 := if c < 0 then [46] else dec (c / 14) ++ [45] ++ dec (c % 14)
theorem wd_pos {c : Int} (h : 0 ≤ c) : wd c = dec (c / 14) ++ [45] ++ dec (c % 14) := if_neg (by omega)
theorem wd_neg {c : Int} (h : c < 0) : wd c = [46] := if_pos h
theorem wd_len {c : Int} (h : okC c) : (wd c).length ≤ 5 := by
  unfold okC at h
  unfold wd
  split
  · simp
  · have h1 := dec_len (n := c / 14) ⟨by omega, by omega⟩
    have h2 := dec_len (n := c % 14) ⟨by omega, by omega⟩
    simp only [List.length_append, List.length_cons, List.length_nil]; omega
def rowT (row : List Int) : List UInt8 := Go.Lib.join (row.map wd) [44]
def sqT (n : Int) (ps : List (List Int)) : List UInt8 := dec n ++ [58] ++ Go.Lib.join (ps.map rowT) [59]
/-- what a square's cells are -/
structure OkSq (n : Int) (ps : List (List Int)) : Prop where
  n : 1 ≤ n ∧ n ≤ 13
  len : ps.length ≤ 13
  row : ∀ r ∈ ps, r.length ≤ 13 ∧ ∀ c ∈ r, okC c
theorem okSq_of {n : Int} {ps : List (List Int)} (h : isSq n ps = true) : OkSq n ps := by
  unfold isSq at h
  simp only [Bool.and_eq_true, decide_eq_true_eq, List.all_eq_true] at h
  obtain ⟨⟨⟨h1, _⟩, h2⟩, h3⟩ := h
  have hn := inB_of h1
  refine ⟨hn, by omega, fun r hr => ?_⟩
  obtain ⟨h4, h5⟩ := h3 r hr
  refine ⟨by omega, fun c hc => ?_⟩
  have := h5 c hc
  unfold isC at this
  unfold okC
  simp only [Bool.or_eq_true, Bool.and_eq_true, decide_eq_true_eq] at this
  rcases this with rfl | ⟨⟨g1, g2⟩, g3⟩
  · omega
  · have e1 : c.tdiv 14 = c / 14 := Int.tdiv_eq_ediv_of_nonneg g1
    have e2 : c.tmod 14 = c % 14 := Int.tmod_eq_emod_of_nonneg g1
    rw [e1, e2] at g2
    rw [e2] at g3
    omega
theorem words_len {n : Int} {ps : List (List Int)} (h : OkSq n ps) {r : List Int} (hr : r ∈ ps) : ∀ w ∈ r.map wd, w.length ≤ 5 := fun w hw => by
  obtain ⟨c, hc, rfl⟩ := List.mem_map.1 hw
  exact wd_len ((h.row r hr).2 c hc)
theorem rowT_len {n : Int} {ps : List (List Int)} (h : OkSq n ps) {r : List Int} (hr : r ∈ ps) : (rowT r).length ≤ 78 := by
  have h1 := join_len (s := 44) (words_len h hr)
  have h2 := (h.row r hr).1
  rw [List.length_map] at h1
  unfold rowT; omega
theorem rows_len {n : Int} {ps : List (List Int)} (h : OkSq n ps) : ∀ w ∈ ps.map rowT, w.length ≤ 78 := fun w hw => by
  obtain ⟨r, hr, rfl⟩ := List.mem_map.1 hw
  exact rowT_len h hr
theorem rd_map {α : Type} {f : Int → α} {l : List Int} {k : Nat} (h : k < l.length) : (l.map f)[k]? = some (f (rd l k)) := by
  rw [List.getElem?_map, List.getElem?_eq_getElem h, rd_get' h]; rfl
 where rd_get' {l : List Int} {k : Nat} (h : k < l.length) : l[k] = rd l k := by simp [rd, List.getD_eq_getElem?_getD, List.getElem?_eq_getElem h]
theorem rw_map {α : Type} {f : List Int → α} {l : List (List Int)} {k : Nat} (h : k < l.length) : (l.map f)[k]? = some (f (rw_ l k)) := by
  rw [List.getElem?_map, List.getElem?_eq_getElem h]; simp [rw_, List.getD_eq_getElem?_getD, List.getElem?_eq_getElem h]
theorem sRow {fu : Nat} (hf : Big fu) {n : Int} {ps : List (List Int)} (h : OkSq n ps) {i : Nat} (hi : i < ps.length) {acc : List UInt8} (ha : acc.length ≤ 1000000) :
    loopF (D_spec_l04Text_s1 fu ps (i : Int)) fu (toB acc, 0) = some (toB (acc ++ rowT (rw_ ps i))) := by
  have hf' := hf
  unfold Big at hf
  have hr := rw_mem hi
  obtain ⟨hr1, hr2⟩ := h.row _ hr
  have hw := words_len h hr
  have h13 := h.len
  refine loop_seq (fun j => (toB (acc ++ Go.Lib.join (((rw_ ps i).map wd).take j) [44]), (j : Int))) (rw_ ps i).length _ (by omega) ?_ ?_ (by simp [Go.Lib.join_nil])
  · intro j hj
    have hc := hr2 _ (rd_mem hj)
    have hl := join_take (s := 44) hw (k := j) (by rw [List.length_map]; omega)
    rw [List.length_map] at hl
    have hst := step_text (acc := acc) (s := 44) (rd_map (f := wd) hj)
    generalize hA : acc ++ Go.Lib.join (((rw_ ps i).map wd).take j) [44] = a at hst
    have hal : a.length ≤ 1000100 := by rw [← hA, List.length_append]; omega
    unfold D_spec_l04Text_s1; dsimp only
    rw [chk_inR (by omega) (by omega), bif_dt (by rw [Int.toNat_natCast]; omega)]
    rw [sep_D e44 (by omega), Option.bind_some]
    generalize hB : (if 0 < j then a ++ [44] else a) = b at hst
    have hbl : b.length ≤ 1000200 := by rw [← hB]; split <;> (try rw [List.length_append, List.length_singleton]) <;> omega
    rw [chk_inR (by omega) (by omega), Int.toNat_natCast, Int.toNat_natCast, chk_inR (by omega) (by omega)]
    rw [← hst]
    unfold okC at hc
    by_cases h0 : 0 ≤ rd (rw_ ps i) j
    · have d1 : (rd (rw_ ps i) j).tdiv 14 = rd (rw_ ps i) j / 14 := Int.tdiv_eq_ediv_of_nonneg h0
      have d2 : (rd (rw_ ps i) j).tmod 14 = rd (rw_ ps i) j % 14 := Int.tmod_eq_emod_of_nonneg h0
      have l1 := dec_len (n := rd (rw_ ps i) j / 14) ⟨by omega, by omega⟩
      have l2 := dec_len (n := rd (rw_ ps i) j % 14) ⟨by omega, by omega⟩
      rw [bif_dt h0, chk_div h0 (by omega), d1, d2, l01Dec_D hf' ⟨by omega, by omega⟩, Option.bind_some, l01Dec_D hf' ⟨by omega, by omega⟩, Option.bind_some, wd_pos h0, toB_app, appL e45, toB_app,
        chkS (by omega), chkL e45 (by rw [List.length_append]; omega), chkS (by simp only [List.length_append, List.length_cons, List.length_nil]; omega), chk_in64 (by omega) (by omega)]
      simp only [List.append_assoc]; rfl
    · rw [bif_df h0, chkL e46 (by omega), chk_in64 (by omega) (by omega), wd_neg (by omega), appL e46]; rfl
  · unfold D_spec_l04Text_s1; dsimp only
    rw [chk_inR (by omega) (by omega), bif_df (by rw [Int.toNat_natCast]; omega), List.take_of_length_le (by rw [List.length_map]; omega)]; rfl
theorem sText {fu : Nat} (hf : Big fu) {n : Int} {ps : List (List Int)} (h : OkSq n ps) : D_spec_l04Text fu n ps = some (toB (sqT n ps)) := by
  have hf' := hf
  unfold Big at hf
  have hn := h.n
  have h13 := h.len
  have ld := dec_len (n := n) ⟨by omega, by omega⟩
  have hw := rows_len h
  unfold D_spec_l04Text sqT
  rw [l01Dec_D hf' ⟨by omega, by omega⟩, Option.bind_some]
  rw [chkL e58 (by omega), appL e58]
  rw [loop_seq (fun i => (toB ((dec n ++ [58]) ++ Go.Lib.join ((ps.map rowT).take i) [59]), (i : Int))) ps.length (toB ((dec n ++ [58]) ++ Go.Lib.join (ps.map rowT) [59])) (by omega) ?_ ?_ (by simp [Go.Lib.join_nil])]; rfl
  · intro i hi
    have hl := join_take (s := 59) hw (k := i) (by rw [List.length_map]; omega)
    rw [List.length_map] at hl
    have hst := step_text (acc := dec n ++ [58]) (s := 59) (rw_map (f := rowT) hi)
    generalize hA : (dec n ++ [58]) ++ Go.Lib.join ((ps.map rowT).take i) [59] = a at hst
    have hal : a.length ≤ 10000 := by rw [← hA]; simp only [List.length_append, List.length_cons, List.length_nil]; omega
    unfold D_spec_l04Text_s0; dsimp only
    rw [bif_dt (by omega), sep_D e59 (by omega), Option.bind_some]
    generalize hB : (if 0 < i then a ++ [59] else a) = b at hst
    have hbl : b.length ≤ 10100 := by rw [← hB]; split <;> (try rw [List.length_append, List.length_singleton]) <;> omega
    rw [sRow hf' h hi (by omega), Option.bind_some, chk_in64 (by omega) (by omega), hst]; rfl
  · unfold D_spec_l04Text_s0; dsimp only
    rw [bif_df (by omega), List.take_of_length_le (by rw [List.length_map]; omega)]
theorem iRow {fu : Nat} (hf : Big fu) {n : Int} {ps : List (List Int)} (h : OkSq n ps) {i : Nat} (hi : i < ps.length) :
    loopF (D_impl_Square_text_s1 fu ps (i : Int)) fu ([], 0) = some (((rw_ ps i).map wd).map toB) := by
  have hf' := hf
  unfold Big at hf
  have hr := rw_mem hi
  obtain ⟨hr1, hr2⟩ := h.row _ hr
  refine loop_seq (fun j => ((((rw_ ps i).map wd).map toB).take j, (j : Int))) (rw_ ps i).length _ (by omega) ?_ ?_ rfl
  · intro j hj
    have hc := hr2 _ (rd_mem hj)
    have hl : ((((rw_ ps i).map wd).map toB).take j).length = j := by simp; omega
    have ht : (((rw_ ps i).map wd).map toB).take (j + 1) = (((rw_ ps i).map wd).map toB).take j ++ [toB (wd (rd (rw_ ps i) j))] := take_app (by rw [List.map_map]; exact rd_map (f := toB ∘ wd) hj)
    unfold D_impl_Square_text_s1; dsimp only
    rw [Int.toNat_natCast, Int.toNat_natCast, bif_dt (by omega), chk_inR (by omega) (by omega), ht]
    unfold okC at hc
    by_cases h0 : 0 ≤ rd (rw_ ps i) j
    · have d1 : (rd (rw_ ps i) j).tdiv 14 = rd (rw_ ps i) j / 14 := Int.tdiv_eq_ediv_of_nonneg h0
      have d2 : (rd (rw_ ps i) j).tmod 14 = rd (rw_ ps i) j % 14 := Int.tmod_eq_emod_of_nonneg h0
      have l1 := dec_len (n := rd (rw_ ps i) j / 14) ⟨by omega, by omega⟩
      have l2 := dec_len (n := rd (rw_ ps i) j % 14) ⟨by omega, by omega⟩
      rw [bif_df (by omega), chk_div h0 (by omega), d1, d2, decimal_D ⟨by omega, by omega⟩, Option.bind_some, decimal_D ⟨by omega, by omega⟩, Option.bind_some, appL e45, toB_app,
        chkL e45 (by omega), chkS (by simp only [List.length_append, List.length_cons, List.length_nil]; omega), chk_le (by omega), chk_in64 (by omega) (by omega), wd_pos h0]; rfl
    · rw [bif_dt (by omega), chk_le (by omega), chk_in64 (by omega) (by omega), wd_neg (by omega)]; rfl
  · unfold D_impl_Square_text_s1; dsimp only
    rw [Int.toNat_natCast, bif_df (by omega), List.take_of_length_le (by simp)]
theorem iText {fu : Nat} (hf : Big fu) {n : Int} {ps : List (List Int)} (h : OkSq n ps) : D_impl_Square_text fu n ps = some (toB (sqT n ps)) := by
  have hf' := hf
  unfold Big at hf
  have hn := h.n
  have h13 := h.len
  have ld := dec_len (n := n) ⟨by omega, by omega⟩
  have hw := rows_len h
  have hJ := join_len (s := 59) hw
  rw [List.length_map] at hJ
  unfold D_impl_Square_text sqT
  rw [loop_seq (fun i => (((ps.map rowT).map toB).take i, (i : Int))) ps.length ((ps.map rowT).map toB) (by omega) ?_ ?_ (s := ([], 0)) rfl, Option.bind_some, decimal_D ⟨by omega, by omega⟩, Option.bind_some]
  · rw [chkL e58 (by omega), e59, joined_D (s := 59) (b := 78) hw (by rw [List.length_map]; omega) (by rw [List.length_map]; omega), Option.bind_some, appL e58, chkS (by simp only [List.length_append, List.length_cons, List.length_nil]; omega), toB_app]
  · intro i hi
    have hl : (((ps.map rowT).map toB).take i).length = i := by simp; omega
    have ht : ((ps.map rowT).map toB).take (i + 1) = ((ps.map rowT).map toB).take i ++ [toB (rowT (rw_ ps i))] := take_app (by rw [List.map_map]; exact rw_map (f := toB ∘ rowT) hi)
    have hrl := (h.row _ (rw_mem hi)).1
    unfold D_impl_Square_text_s0; dsimp only
    rw [bif_dt (by omega), chk_inR (by omega) (by omega), iRow hf' h hi, Option.bind_some, e44, joined_D (s := 44) (b := 5) (words_len h (rw_mem hi)) (by rw [List.length_map]; omega) (by rw [List.length_map]; omega), Option.bind_some, chk_le (by omega), chk_in64 (by omega) (by omega), ht]; rfl
  · unfold D_impl_Square_text_s0; dsimp only
    rw [bif_df (by omega), List.take_of_length_le (by simp)]
def sqTx (n : Int) (ps : List (List Int)) : ByteArray × Int := if isSq n ps then (toB (sqT n ps), 0) else (toB [], 1)
theorem sqText_eqs {fu : Nat} (hf : Big fu) (n : Int) {ps : List (List Int)} (hs : Small ps) (h64 : R64 ps) : D_spec_SquareText fu n ps = some (sqTx n ps) ∧ D_impl_SquareText fu n ps = some (sqTx n ps) := by
  unfold D_spec_SquareText D_impl_SquareText sqTx
  rw [l04Is_D hf n hs, IsSquare_D hf n hs h64, Option.bind_some, Option.bind_some]
  cases h : isSq n ps with
  | false => exact ⟨rfl, rfl⟩
  | true =>
    have ho := okSq_of h
    rw [Bool.not_true, bif_false, bif_false, sText hf ho, iText hf ho]; exact ⟨rfl, rfl⟩
theorem sqText_law {fu : Nat} (hf : Big fu) (n : Int) {ps : List (List Int)} (hl : ps.length ≤ 9223372036854775807) (hr : ∀ r ∈ ps, r.length ≤ 9223372036854775807 ∧ all64 r) : D_laws_FnExactSquareText fu n ps = some true := by
  unfold D_laws_FnExactSquareText
  rw [szSquare_D hf (by omega) (by omega) hl (fun r h => (hr r h).1), Option.bind_some]
  by_cases h : (if szv 1048576 ps.length < 0 then -1 else szR (szv 1048576 ps.length) ps) < 0
  · rw [if_pos h, bif_dt (by decide)]
  · obtain ⟨h1, h2⟩ := sz_small h
    have hs : Small ps := ⟨by omega, fun r hr => by have := h2 r hr; omega⟩
    have h64 : R64 ps := fun r h => (hr r h).2
    rw [if_neg h, bif_df h]
    obtain ⟨e1, e2⟩ := sqText_eqs hf n hs h64
    generalize sqTx n ps = w at e1 e2
    obtain ⟨t, c⟩ := w
    simp (disch := omega) only [toSquare_D hf hs, e1, e2, Option.bind_some, beq_refl', eqSquare_D hf hs, decide_true, Bool.and_true, Bool.not_true, bif_false, Bool.or_false]
end Go.Proofs.YtfiilgnebmidbaaDoor

