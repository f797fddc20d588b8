/-
  Arguments opened by their types. No condition.
-/
import Derived.Test.YtocaepkkaihiiaaAm11
namespace Go.Proofs.Ytocaepkkaihiiaa.Am
open Go Go.RowKit Go.ChangeShapes Go.WideShapes
set_option linter.unusedVariables false
set_option linter.unusedSimpArgs false
variable {P : Program} {H : AHeap} {k : Nat}

def i64 (x : Int) : Prop := -9223372036854775808 ≤ x ∧ x ≤ 9223372036854775807
def all64 (l : List Int) : Prop := ∀ x ∈ l, i64 x
theorem all64.rd {l : List Int} (h : all64 l) (j : Nat) : i64 (rd l j) := by
  unfold Am.rd
  rcases Nat.lt_or_ge j l.length with hj | hj
  · rw [List.getD_eq_getElem?_getD, List.getElem?_eq_getElem hj]; exact h _ (List.getElem_mem hj)
  · rw [List.getD_eq_getElem?_getD, List.getElem?_eq_none hj]; exact ⟨by decide, by decide⟩
theorem wf64 {x : Int} (h : (Lit.int .i64 x).wf = true) : i64 x := by
  have h' : IntKind.i64.min ≤ x ∧ x ≤ IntKind.i64.max := by simpa only [Lit.wf, Bool.and_eq_true, decide_eq_true_eq] using h
  have e1 : IntKind.i64.min = -9223372036854775808 := by decide
  have e2 : IntKind.i64.max = 9223372036854775807 := by decide
  rw [e1, e2] at h'
  exact h'

theorem aok_int {t : TypeId} {cs : List Value} (ht : P.underlying t = some (.int .i64)) (h : aok P H k t cs) : ∃ x, cs = [.int .i64 x] ∧ i64 x := by
  cases k with
  | zero => exact absurd h id
  | succ k => unfold aok at h; rw [ht] at h; obtain ⟨x, h1, h2⟩ := h; exact ⟨x, h1, wf64 h2⟩
theorem segs_ints {e : TypeId} {n : Nat} {cs : List Value} (he : P.underlying e = some (.int .i64)) (hm : P.cellsOf e = 1) (hl : cs.length = n) (h : ∀ j, j < n → aok P H k e (Seg cs (j * P.cellsOf e) (P.cellsOf e))) :
    ∃ l : List Int, l.length = n ∧ cs = ints l ∧ all64 l := by
  subst hl
  induction cs with
  | nil => exact ⟨[], rfl, rfl, fun x h => by cases h⟩
  | cons c cs ih =>
    obtain ⟨l, h1, h2, h3⟩ := ih fun j hj => by
      have := h (j + 1) (by simpa using hj)
      rw [hm] at this ⊢
      simpa [Seg] using this
    obtain ⟨x, e1, e2⟩ := aok_int he (h 0 (by simp))
    rw [hm] at e1
    simp [Seg] at e1
    refine ⟨x :: l, by simp [h1], by rw [e1, h2]; rfl, fun y hy => ?_⟩
    rcases List.mem_cons.1 hy with rfl | hy
    · exact e2
    · exact h3 y hy
theorem aok_arr {t e : TypeId} {n : Nat} {cs : List Value} (ht : P.underlying t = some (.array n e)) (he : P.underlying e = some (.int .i64)) (hm : P.cellsOf e = 1) (hn : P.cellsOf t = n) (h : aok P H k t cs) :
    ∃ l : List Int, l.length = n ∧ cs = ints l ∧ all64 l := by
  cases k with
  | zero => exact absurd h id
  | succ k => unfold aok at h; rw [ht] at h; exact segs_ints he hm (h.1.trans hn) h.2
/-- a slice of ints -/
theorem aok_ints {t e : TypeId} {cs : List Value} (ht : P.underlying t = some (.slice e)) (he : P.underlying e = some (.int .i64)) (hm : P.cellsOf e = 1) (h : aok P H k t cs) :
    ∃ i c, ∃ l : List Int, cs = [.slice (some ⟨i, 0, none⟩) l.length c] ∧ l.length ≤ maxLen ∧ i < H.length ∧ hget H i = .row true (ints l) ∧ all64 l := by
  cases k with
  | zero => exact absurd h id
  | succ k =>
    unfold aok at h; rw [ht] at h
    obtain ⟨i, len, cap, cells, rfl, h1, h2, h3, h4, h5⟩ := h
    rw [hm, Nat.mul_one] at h4
    obtain ⟨l, rfl, rfl, h6⟩ := segs_ints he hm h4 h5
    exact ⟨i, cap, l, rfl, h1, h2, h3, h6⟩
/-- a slice of arrays of ints -/
theorem aok_arrs {t e q : TypeId} {n : Nat} {cs : List Value} (ht : P.underlying t = some (.slice e)) (he : P.underlying e = some (.array n q)) (hq : P.underlying q = some (.int .i64)) (hm : P.cellsOf q = 1) (hn : P.cellsOf e = n) (h : aok P H k t cs) :
    ∃ i c, ∃ l : List (List Int), cs = [.slice (some ⟨i, 0, none⟩) l.length c] ∧ l.length ≤ maxLen ∧ i < H.length ∧ hget H i = .row true (ints l.flatten) ∧ ∀ r ∈ l, r.length = n ∧ all64 r := by
  cases k with
  | zero => exact absurd h id
  | succ k =>
    unfold aok at h; rw [ht] at h
    obtain ⟨i, len, cap, cells, rfl, h1, h2, h3, h4, h5⟩ := h
    rw [hn] at h4 h5
    have key : ∃ l : List (List Int), l.length = len ∧ cells = ints l.flatten ∧ ∀ r ∈ l, r.length = n ∧ all64 r := by
      clear h1 h3
      induction len generalizing cells with
      | zero => exact ⟨[], rfl, List.eq_nil_of_length_eq_zero (by simpa using h4), fun r h => by cases h⟩
      | succ len ih =>
        obtain ⟨l, k1, k2, k3⟩ := ih (cells.drop n) (by rw [List.length_drop, h4, Nat.succ_mul]; omega) (fun j hj => by
          have := h5 (j + 1) (by omega)
          unfold Seg at this ⊢
          rw [List.drop_drop, show n + j * n = (j + 1) * n by rw [Nat.succ_mul]; omega]
          exact this)
        obtain ⟨r, r1, r2, r3⟩ := aok_arr he hq hm hn (h5 0 (Nat.succ_pos _))
        have : cells = cells.take n ++ cells.drop n := (List.take_append_drop n cells).symm
        refine ⟨r :: l, by simp [k1], ?_, fun r' h' => ?_⟩
        · rw [this, k2]
          have r2' : cells.take n = ints r := by simpa [Seg] using r2
          rw [r2']; simp [ints]
        · rcases List.mem_cons.1 h' with rfl | h'
          · exact ⟨r1, r3⟩
          · exact k3 r' h'
    obtain ⟨l, rfl, rfl, k3⟩ := key
    exact ⟨i, cap, l, rfl, h1, h2, h3, k3⟩
/-- a slice of slices of ints: each row a number, a room, its ints -/
def hdr (x : Nat × Nat × List Int) : Value := .slice (some ⟨x.1, 0, none⟩) x.2.2.length x.2.1
theorem aok_rows {t e q : TypeId} {cs : List Value} (ht : P.underlying t = some (.slice e)) (he : P.underlying e = some (.slice q)) (hq : P.underlying q = some (.int .i64)) (hm : P.cellsOf q = 1) (hn : P.cellsOf e = 1) (h : aok P H k t cs) :
    ∃ i c, ∃ l : List (Nat × Nat × List Int), cs = [.slice (some ⟨i, 0, none⟩) l.length c] ∧ l.length ≤ maxLen ∧ i < H.length ∧ hget H i = .row true (l.map hdr) ∧
      ∀ r ∈ l, r.1 < H.length ∧ hget H r.1 = .row true (ints r.2.2) ∧ r.2.2.length ≤ maxLen ∧ all64 r.2.2 := by
  cases k with
  | zero => exact absurd h id
  | succ k =>
    unfold aok at h; rw [ht] at h
    obtain ⟨i, len, cap, cells, rfl, h1, h2, h3, h4, h5⟩ := h
    rw [hn, Nat.mul_one] at h4
    rw [hn] at h5
    have key : ∃ l : List (Nat × Nat × List Int), l.length = len ∧ cells = l.map hdr ∧ ∀ r ∈ l, r.1 < H.length ∧ hget H r.1 = .row true (ints r.2.2) ∧ r.2.2.length ≤ maxLen ∧ all64 r.2.2 := by
      clear h1 h3
      induction len generalizing cells with
      | zero => exact ⟨[], rfl, List.eq_nil_of_length_eq_zero h4, fun r h => by cases h⟩
      | succ len ih =>
        obtain ⟨l, k1, k2, k3⟩ := ih (cells.drop 1) (by rw [List.length_drop, h4]; omega) (fun j hj => by
          have := h5 (j + 1) (by omega)
          unfold Seg at this ⊢
          rw [List.drop_drop, show 1 + j * 1 = (j + 1) * 1 by omega]
          exact this)
        obtain ⟨i', c', r, r1, r2, r3, r4, r5⟩ := aok_ints he hq hm (h5 0 (Nat.succ_pos _))
        refine ⟨(i', c', r) :: l, by simp [k1], ?_, fun r' h' => ?_⟩
        · have r1' : cells.take 1 = [.slice (some ⟨i', 0, none⟩) r.length c'] := by simpa [Seg] using r1
          rw [← List.take_append_drop 1 cells, k2, r1']; rfl
        · rcases List.mem_cons.1 h' with rfl | h'
          · exact ⟨r3, r4, r2, r5⟩
          · exact k3 r' h'
    obtain ⟨l, rfl, rfl, k3⟩ := key
    exact ⟨i, cap, l, rfl, h1, h2, h3, k3⟩

/-! of an argument -/
theorem arg_int {t : TypeId} {v : Value} (ht : P.underlying t = some (.int .i64)) (h : argOk P H k t v) : ∃ x, v = .int .i64 x ∧ i64 x := by
  rcases h with ⟨acs, _, _, ⟨fs, h⟩ | ⟨n, e, h⟩⟩ | ⟨h, _⟩
  · rw [ht] at h; cases h
  · rw [ht] at h; cases h
  · obtain ⟨x, e, h⟩ := aok_int ht h; exact ⟨x, by simpa using e, h⟩
theorem arg_arr {t e : TypeId} {n : Nat} {v : Value} (ht : P.underlying t = some (.array n e)) (he : P.underlying e = some (.int .i64)) (hm : P.cellsOf e = 1) (hn : P.cellsOf t = n) (h : argOk P H k t v) :
    ∃ l : List Int, l.length = n ∧ v = .agg (ints l).toArray ∧ all64 l := by
  rcases h with ⟨acs, rfl, h, _⟩ | ⟨h, _, h2⟩
  · obtain ⟨l, h1, rfl, h3⟩ := aok_arr ht he hm hn h; exact ⟨l, h1, rfl, h3⟩
  · exact absurd ht (h2 _ _)
theorem arg_slice {t e : TypeId} {v : Value} (ht : P.underlying t = some (.slice e)) (h : argOk P H k t v) : aok P H k t [v] := by
  rcases h with ⟨acs, _, _, ⟨fs, h⟩ | ⟨n, e, h⟩⟩ | ⟨h, _⟩
  · rw [ht] at h; cases h
  · rw [ht] at h; cases h
  · exact h
/-- a struct of a number and a slice -/
theorem arg_pair {t : TypeId} {f0 f1 : Field} {v : Value} (ht : P.underlying t = some (.struct #[f0, f1])) (h0 : f0.offset = 0) (h1 : f1.offset = 1) (c0 : P.cellsOf f0.type = 1) (c1 : P.cellsOf f1.type = 1) (hc : P.cellsOf t = 2) (h : argOk P H (k + 1) t v) :
    ∃ a b, v = .agg #[a, b] ∧ aok P H k f0.type [a] ∧ aok P H k f1.type [b] := by
  rcases h with ⟨acs, rfl, h, _⟩ | ⟨_, h, _⟩
  · unfold aok at h; rw [ht] at h
    obtain ⟨hl, h⟩ := h
    rw [hc] at hl
    match acs, hl with
    | [a, b], _ =>
      refine ⟨a, b, rfl, ?_, ?_⟩
      · have := h f0 (by simp); rw [h0, c0] at this; exact this
      · have := h f1 (by simp); rw [h1, c1] at this; exact this
  · exact absurd ht (h _)
theorem args_nil {avs : List Value} (h : argsOk P H k [] avs) : avs = [] := by cases avs with | nil => rfl | cons => exact absurd h id
theorem args_cons {t : TypeId} {ts : List TypeId} {avs : List Value} (h : argsOk P H k (t :: ts) avs) : ∃ v vs, avs = v :: vs ∧ argOk P H k t v ∧ argsOk P H k ts vs := by
  cases avs with | nil => exact absurd h id | cons v vs => exact ⟨v, vs, rfl, h.1, h.2⟩
end Go.Proofs.Ytocaepkkaihiiaa.Am
