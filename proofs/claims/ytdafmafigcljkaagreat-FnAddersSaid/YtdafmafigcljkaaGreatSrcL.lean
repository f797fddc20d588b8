
/-
  A handed slice of bytes. No condition.
-/
import Derived.Test.YtdafmafigcljkaaGreatK5
import Derived.Test.YtdafmafigcljkaaGreatCa
namespace Go.Proofs.YtdafmafigcljkaaGreat.Am
open Go Go.RowKit
set_option linter.unusedVariables false
set_option linter.unusedSimpArgs false
def allU8 (l : List Int) : Prop := ∀ x ∈ l, 0 ≤ x ∧ x < 256
section
variable {P : Program} {H : AHeap} {k : Nat}
theorem wfU8 {x : Int} (h : (Lit.int .u8 x).wf = true) : 0 ≤ x ∧ x < 256 := by
  have h' : IntKind.u8.min ≤ x ∧ x ≤ IntKind.u8.max := by simpa only [Lit.wf, Bool.and_eq_true, decide_eq_true_eq] using h
  have h1 : IntKind.min .u8 = 0 := by decide
  have h2 : IntKind.max .u8 = 255 := by decide
  omega
theorem aok_u8 {t : TypeId} {cs : List Value} (ht : P.underlying t = some (.int .u8)) (h : aok P H k t cs) : ∃ x, cs = [.int .u8 x] ∧ 0 ≤ x ∧ x < 256 := by
  cases k with
  | zero => exact absurd h id
  | succ k => unfold aok at h; rw [ht] at h; obtain ⟨x, h1, h2⟩ := h; exact ⟨x, h1, wfU8 h2⟩
theorem segs_bys {e : TypeId} {n : Nat} {cs : List Value} (he : P.underlying e = some (.int .u8)) (hm : P.cellsOf e = 1) (hl : cs.length = n) (h : ∀ j, j < n → aok P H k e (Seg cs (j * P.cellsOf e) (P.cellsOf e))) :
    ∃ l : List Int, l.length = n ∧ cs = bys l ∧ allU8 l := by
  subst hl
  induction cs with
  | nil => exact ⟨[], rfl, rfl, fun x h => by cases h⟩
  | cons c cs ih =>
    obtain ⟨l, h1, h2, h3⟩ := ih fun j hj => by
      have := h (j + 1) (by simpa using hj)
      rw [hm] at this ⊢
      simpa [Seg] using this
    obtain ⟨x, e1, e2⟩ := aok_u8 he (h 0 (by simp))
    rw [hm] at e1
    simp [Seg] at e1
    refine ⟨x :: l, by simp [h1], by rw [e1, h2]; rfl, fun y hy => ?_⟩
    rcases List.mem_cons.1 hy with rfl | hy
    · exact e2
    · exact h3 y hy
theorem open_bytes {t e : TypeId} {v : Value} (ht : P.underlying t = some (.slice e)) (he : P.underlying e = some (.int .u8)) (hm : P.cellsOf e = 1) (h : aok P H k t [v]) :
    ∃ p c, ∃ l : List Int, v = .slice p l.length c ∧ Vw H p l.length c (bys l) ∧ allU8 l := by
  cases k with
  | zero => exact absurd h id
  | succ k =>
    unfold aok at h; rw [ht] at h
    obtain ⟨i, len, cap, cells, h0, h1, h2, h3, h4, h5⟩ := h
    rw [hm, Nat.mul_one] at h4
    obtain ⟨l, rfl, rfl, h6⟩ := segs_bys he hm h4 h5
    exact ⟨_, cap, l, by simpa using h0, .ofRow h3, h6⟩
end
end Go.Proofs.YtdafmafigcljkaaGreat.Am
