/-
  The entry, continued: arguments as slices that are read. No condition.
-/
import Derived.Test.YtocaepkkaihiiaaAm23
namespace Go.Proofs.Ytocaepkkaihiiaa.Am
open Go Go.RowKit
set_option linter.unusedVariables false
set_option linter.unusedSimpArgs false
section
variable {P : Program} {H : AHeap} {k : Nat}
theorem Vw.ofRow {i c n : Nat} {cs : List Value} (h : hget H i = .row true cs) : Vw H (some ⟨i, 0, none⟩) n c cs :=
  ⟨.inr ⟨i, 0, rfl, row_lt h⟩, fun _ => rfl, fun j v e => by show hcell H i (0 + j) = _; rw [Nat.zero_add]; exact row_cell h e⟩
theorem open_ints {t e : TypeId} {v : Value} (ht : P.underlying t = some (.slice e)) (he : P.underlying e = some (.int .i64)) (hm : P.cellsOf e = 1) (h : aok P H k t [v]) :
    ∃ p c, ∃ l : List Int, v = .slice p l.length c ∧ l.length ≤ 9223372036854775807 ∧ Vw H p l.length c (ints l) ∧ all64 l := by
  obtain ⟨i, c, l, h1, h2, _, h4, h5⟩ := aok_ints ht he hm h
  exact ⟨_, c, l, by simpa using h1, by have : maxLen = 9223372036854775807 := by decide
                                        omega, .ofRow h4, h5⟩
theorem open_rows {t e q : TypeId} {n : Nat} {v : Value} (ht : P.underlying t = some (.slice e)) (he : P.underlying e = some (.array n q)) (hq : P.underlying q = some (.int .i64)) (hm : P.cellsOf q = 1) (hn : P.cellsOf e = n) (h : aok P H k t [v]) :
    ∃ p c, ∃ l : List (List Int), v = .slice p l.length c ∧ All n l ∧ l.length ≤ 9223372036854775807 ∧ Vw H p l.length c (ints l.flatten) ∧ ∀ r ∈ l, all64 r := by
  obtain ⟨i, c, l, h1, h2, _, h4, h5⟩ := aok_arrs ht he hq hm hn h
  exact ⟨_, c, l, by simpa using h1, fun r hr => (h5 r hr).1, by have : maxLen = 9223372036854775807 := by decide
                                                                 omega, .ofRow h4, fun r hr => (h5 r hr).2⟩
theorem open_tab {t e q : TypeId} {v : Value} (ht : P.underlying t = some (.slice e)) (he : P.underlying e = some (.slice q)) (hq : P.underlying q = some (.int .i64)) (hm : P.cellsOf q = 1) (hn : P.cellsOf e = 1) (h : aok P H k t [v]) :
    ∃ p c, ∃ (T : Tb) (R : List (List Int)), v = .slice p R.length c ∧ trows T = R ∧ Vw H p R.length c (tcells T) ∧ TVw H T ∧ R.length ≤ 9223372036854775807 ∧ ∀ r ∈ R, r.length ≤ 9223372036854775807 ∧ all64 r := by
  obtain ⟨i, c, l, h1, h2, _, h4, h5⟩ := aok_rows ht he hq hm hn h
  have hmax : maxLen = 9223372036854775807 := by decide
  let T : Tb := l.map fun x => (some ⟨x.1, 0, none⟩, x.2.1, x.2.2)
  have hc : tcells T = l.map hdr := by unfold tcells; show (l.map _).map _ = _; rw [List.map_map]; rfl
  refine ⟨some ⟨i, 0, none⟩, c, T, trows T, ?_, rfl, by rw [hc]; exact .ofRow h4, fun x hx => ?_, ?_, fun r hr => ?_⟩
  · have : (trows T).length = l.length := by rw [trows_len]; exact List.length_map _
    rw [this]; simpa using h1
  · obtain ⟨y, hy, rfl⟩ := List.mem_map.1 hx
    exact .ofRow (h5 y hy).2.1
  · rw [trows_len]; show (l.map _).length ≤ _; rw [List.length_map]; omega
  · obtain ⟨x, hx, rfl⟩ := List.mem_map.1 hr
    obtain ⟨y, hy, rfl⟩ := List.mem_map.1 hx
    have := h5 y hy
    exact ⟨by show y.2.2.length ≤ _; omega, this.2.2.2⟩
end
end Go.Proofs.Ytocaepkkaihiiaa.Am
