/-
  An abstract machine over this model's programs, sixth part: append, and what is built of parts. No condition.
-/
import Derived.Test.YtocaepkkaihiiaaAm4
namespace Go.Proofs.Ytocaepkkaihiiaa.Am
open Go Go.RowKit
set_option linter.unusedVariables false
set_option linter.unusedSimpArgs false

section mem
variable {P : Program} {N : Nat} {t : Env} {H : AHeap} {d : Option Tmp} {ty : TypeId} {pos : String} {af : Array Edge} {g : Option (Nat × Bool)}

/-- The parts of an array or a slice laid one after the other, each of m cells. -/
def partsOf (m : Nat) : List (Nat × Value) → List Value → Option (List Value)
  | [], cs => some cs
  | (i, v) :: rest, cs => if v.cells.size = m ∧ i * m + m ≤ cs.length then partsOf m rest (setMany cs (i * m) v.cells.toList) else none

theorem foldl_set (l : List Value) : ∀ (cs : Array Value) (off k : Nat), (l.zipIdx k).foldl (fun cs (x : Value × Nat) => cs.setIfInBounds (off + x.2) x.1) cs = (setMany cs.toList (off + k) l).toArray := by
  induction l with
  | nil => intro cs off k; simp [setMany]
  | cons v l ih =>
    intro cs off k
    simp only [List.zipIdx_cons, List.foldl_cons, setMany]
    rw [ih]
    congr 2
    simp

theorem setMany_V {φ : Phi} {vs vs' : List Value} (hl : vs.length = vs'.length) (hv : ∀ (j : Nat) c c', vs[j]? = some c → vs'[j]? = some c' → V φ c c') :
    ∀ (cs cs' : List Value) (k : Nat), cs.length = cs'.length → (∀ (j : Nat) c c', cs[j]? = some c → cs'[j]? = some c' → V φ c c') →
      ∀ (j : Nat) c c', (setMany cs k vs)[j]? = some c → (setMany cs' k vs')[j]? = some c' → V φ c c' := by
  intro cs cs' k hcl hc j c c' e e'
  rcases Nat.lt_or_ge j k with h | h
  · rw [setMany_lt _ _ _ _ h] at e e'; exact hc j c c' e e'
  · rcases Nat.lt_or_ge j (k + vs.length) with h' | h'
    · have hj : j < cs.length := by have := (List.getElem?_eq_some_iff.1 e).1; rw [setMany_length] at this; exact this
      have hk : j = k + (j - k) := by omega
      rw [hk, setMany_in _ _ _ _ (by omega) (by omega)] at e e'
      exact hv _ c c' e e'
    · rw [setMany_ge _ _ _ _ h'] at e
      rw [setMany_ge _ _ _ _ (by omega)] at e'
      exact hc j c c' e e'

theorem fill_ok {φ : Phi} {m : Nat} : ∀ (ps ps' : List (Nat × Value)) (cs cs' cs2 : List Value), ps.length = ps'.length →
    (∀ (j : Nat) p p', ps[j]? = some p → ps'[j]? = some p' → p.1 = p'.1 ∧ V φ p.2 p'.2) → cs.length = cs'.length → (∀ (j : Nat) c c', cs[j]? = some c → cs'[j]? = some c' → V φ c c') →
    partsOf m ps cs = some cs2 →
    ∃ cs2' : List Value, Instr.fill (fun i => some (i * m, m)) cs'.toArray ps' = some cs2'.toArray ∧ cs2.length = cs2'.length ∧ ∀ (j : Nat) c c', cs2[j]? = some c → cs2'[j]? = some c' → V φ c c'
  | [], ps', cs, cs', cs2, hl, hp, hcl, hc, h => by
    obtain rfl : ps' = [] := by cases ps' with | nil => rfl | cons a b => simp at hl
    simp only [partsOf, Option.some.injEq] at h
    subst h
    exact ⟨cs', rfl, hcl, hc⟩
  | (i, v) :: rest, ps', cs, cs', cs2, hl, hp, hcl, hc, h => by
    cases ps' with
    | nil => simp at hl
    | cons p' rest' =>
      obtain ⟨i', v'⟩ := p'
      obtain ⟨h1, h2⟩ := hp 0 _ _ rfl rfl
      dsimp only at h1 h2
      subst h1
      obtain ⟨k1, k2⟩ := cells_of_V h2
      simp only [partsOf] at h
      split at h
      · rename_i hcond
        have e1 : ¬ (v'.cells.size ≠ m ∨ i * m + v'.cells.size > cs'.toArray.size) := by simp; omega
        simp only [Instr.fill]
        have e2 : (v'.cells.size ≠ m || decide (i * m + v'.cells.size > cs'.toArray.size)) = false := by simp; omega
        have hz := foldl_set v'.cells.toList cs'.toArray (i * m) 0
        have hz2 : (v'.cells.zipIdx.foldl (fun cs (x : Value × Nat) => cs.setIfInBounds (i * m + x.2) x.1) cs'.toArray) = (setMany cs' (i * m) v'.cells.toList).toArray := by
          rw [← Array.foldl_toList]
          simpa using hz
        have hb : (decide (v'.cells.size ≠ m) || decide (i * m + v'.cells.size > cs'.toArray.size)) = false := by
          simp; omega
        rw [if_neg (by simpa using hb)]
        have := fill_ok (φ := φ) (m := m) rest rest' (setMany cs (i * m) v.cells.toList) (setMany cs' (i * m) v'.cells.toList) cs2 (by simpa using hl) (fun j p p' e e' => hp (j + 1) p p' (by simpa using e) (by simpa using e'))
          (by rw [setMany_length, setMany_length]; exact hcl)
          (setMany_V (by simpa using k1) (fun j c c' e e' => k2 j c c' (by simpa using e) (by simpa using e')) cs cs' _ hcl hc) h
        rw [← hz2] at this
        exact this
      · cases h

theorem parts_rel {ps : List (Nat × Operand)} {vs : List (Nat × Value)} (h : ps.map (fun p => (p.1, aEv t p.2)) = vs.map (fun p => (p.1, some p.2))) {φ : Phi} {a : Act} (he : EnvR φ N t a) :
    vs.length = (ps.map (fun p => (p.1, a.eval p.2))).length ∧ ∀ (j : Nat) p p', vs[j]? = some p → (ps.map (fun p => (p.1, a.eval p.2)))[j]? = some p' → p.1 = p'.1 ∧ V φ p.2 p'.2 := by
  refine ⟨by have := congrArg List.length h; simpa using this.symm, fun j p p' e e' => ?_⟩
  have h1 : (ps.map (fun p => (p.1, aEv t p.2)))[j]? = (vs.map (fun p => (p.1, some p.2)))[j]? := by rw [h]
  simp only [List.getElem?_map] at h1 e'
  rw [e] at h1
  cases hx : ps[j]? with
  | none => rw [hx] at h1; cases h1
  | some y =>
    rw [hx] at h1 e'
    obtain rfl := Option.some.inj e'
    simp only [Option.map_some, Option.some.injEq, Prod.mk.injEq] at h1
    exact ⟨h1.1.symm, ev_ok he h1.2⟩

theorem flat_self {φ : Phi} {l : List Value} (hf : ∀ c ∈ l, flat0 c = true) (j : Nat) (c c' : Value) (e : l[j]? = some c) (e' : l[j]? = some c') : V φ c c' := by
  rw [e] at e'; obtain rfl := Option.some.inj e'
  exact flatV (hf c (List.mem_of_getElem? e))

theorem replicate_cells {z : List Value} {m len : Nat} (hz : z.length = m) (hm : 0 < m) : ((Array.range (len * m)).map (fun i => z.toArray[i % z.toArray.size]!)).toList = (List.replicate len z).flatten := by
  apply List.ext_getElem?
  intro i
  rcases Nat.lt_or_ge i (len * m) with h | h
  · have hmod : i % m < m := Nat.mod_lt _ hm
    have key : ∀ (c i : Nat), i < c * m → ((List.replicate c z).flatten)[i]? = z[i % m]? := by
      intro c
      induction c with
      | zero => intro i hi; simp at hi
      | succ c ih =>
        intro i hi
        rw [List.replicate_succ, List.flatten_cons]
        rcases Nat.lt_or_ge i m with h' | h'
        · rw [List.getElem?_append_left (by omega), Nat.mod_eq_of_lt h']
        · rw [List.getElem?_append_right (by omega), hz, ih _ (by rw [Nat.succ_mul] at hi; omega), Nat.mod_eq_sub_mod h']
    rw [key len i h]
    have h2 : i % m < z.length := by omega
    rw [List.getElem?_eq_getElem h2]
    simp [h, hz, h2, List.getElem?_eq_getElem h2]
  · have h1 : ((List.replicate len z).flatten).length = len * m := by simp [hz]
    rw [List.getElem?_eq_none (l := (List.replicate len z).flatten) (by omega)]
    simp [h]

/-- []T{..} -/
theorem m_buildSlice {T E : TypeId} {len m : Nat} {ps : List (Nat × Operand)} {vs : List (Nat × Value)} {z : Value} {cs : List Value} (hp : ps.map (fun p => (p.1, aEv t p.2)) = vs.map (fun p => (p.1, some p.2)))
    (hT : P.underlying T = some (.slice E)) (hm : ∀ w, (sizeOf E).run P w = .ok m w) (hz : ∀ w, (zeroValue E).run P w = .ok z w) (hf : ∀ c ∈ z.cells.toList, flat0 c = true) (hzm : z.cells.size = m) (hm0 : 0 < m)
    (hlen : len * m ≤ 16777216) (hcs : partsOf m vs ((List.replicate len z.cells.toList).flatten) = some cs) (hl : cs.length = len * m) :
    OpOk P N ⟨d, .buildSlice T len ps.toArray, ty, pos, af, g⟩ t H (.slice (some ⟨H.length, 0, none⟩) len len) (H ++ [.row false cs]) := by
  intro W φ w a hs he
  obtain ⟨q1, q2⟩ := parts_rel hp he
  have hq : ∀ x ∈ ((List.replicate len z.cells.toList).flatten), flat0 x = true := by
    intro x hx
    obtain ⟨l, hl, hxl⟩ := List.mem_flatten.1 hx
    rw [List.mem_replicate] at hl
    rw [hl.2] at hxl
    exact hf x hxl
  obtain ⟨cs', f1, f2, f3⟩ := fill_ok (φ := φ) (m := m) vs (ps.map (fun p => (p.1, a.eval p.2))) ((List.replicate len z.cells.toList).flatten) ((List.replicate len z.cells.toList).flatten) cs q1 q2 rfl (flat_self hq) hcs
  obtain ⟨φ', k1, k2, k3, k4⟩ := alloc_ok hs cs cs'.toArray E (by simp; omega) (fun j c c' e e' => f3 j c c' e (by simpa using e'))
  refine Does.of_value (v := .slice (some ⟨w.heap.size, 0, none⟩) len len) (w' := w.alloc (.cells cs'.toArray E)) ?_ ⟨φ', k1, ?_, k2⟩
  · have hbig : ¬ (len * m > 2 ^ 24) := by simpa using hlen
    have f1' : Instr.fill (fun i => some (i * m, m)) ((List.replicate len z.cells.toList).flatten).toArray (List.map (fun p => (p.1, a.eval p.2)) ps) = some cs'.toArray := f1
    have step : (Instr.buildSlice T len ((ps.map (fun p => (p.1, a.eval p.2))).toArray)).run P w = .ok (.slice (some ⟨w.heap.size, 0, none⟩) len len) (w.alloc (.cells cs'.toArray E)) := by
      unfold Instr.buildSlice
      by_cases h0 : len * m = 0
      · have hl0 : len = 0 := by rcases Nat.mul_eq_zero.1 h0 with h | h <;> omega
        have hr0 : ∀ zz : Array Value, (Array.range (len * m)).map (fun i => zz[i % zz.size]!) = ((List.replicate len z.cells.toList).flatten).toArray := fun zz => by
          subst hl0; simp
        simp only [Sem.run_bind, run_underlying hT, Result.andThen_ok, hm, if_neg hbig, if_pos h0, Sem.run_pure, hr0]
        rw [f1']
        simp [newRow]
      · have hr1 : (Array.range (len * m)).map (fun i => z.cells[i % z.cells.size]!) = ((List.replicate len z.cells.toList).flatten).toArray := by
          have := replicate_cells (z := z.cells.toList) (m := m) (len := len) (by simpa using hzm) hm0
          rw [← this]
        simp only [Sem.run_bind, run_underlying hT, Result.andThen_ok, hm, if_neg hbig, if_neg h0, Sem.run_pure, hz, hr1]
        rw [f1']
        simp [newRow]
    simp only [execOp]
    have : (Array.map (fun x : Nat × Operand => (x.1, a.eval x.2)) ps.toArray) = (ps.map (fun p => (p.1, a.eval p.2))).toArray := by simp
    simp only [Sem.run_bind]
    rw [show (Array.map (fun (x : Nat × Operand) => match x with | (i, x) => (i, a.eval x)) ps.toArray) = (ps.map (fun p => (p.1, a.eval p.2))).toArray from by simp, step]
    rfl
  · refine .slice H.length 0 len len ⟨w.heap.size, 0, _⟩ len k3 (fun _ => rfl) (fun m' h => ?_) (Nat.le_refl _)
    have : len ≤ len * m := Nat.le_mul_of_pos_right _ hm0
    unfold capU at h; omega

end mem
end Go.Proofs.Ytocaepkkaihiiaa.Am
