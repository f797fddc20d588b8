/-
  An abstract machine over this model's programs: the rules for a statement whose order is open, in the shape in which a program prints them. No condition.
-/
import Derived.Test.YtocaepkkaihiiaaAm8c
namespace Go.Proofs.Ytocaepkkaihiiaa.Am
open Go Go.RowKit
set_option linter.unusedVariables false
set_option linter.unusedSimpArgs false

section a
variable {P : Program} {N : Nat} {t : Env} {d : Option Tmp} {ty : TypeId} {pos : String} {af : Array Edge} {g : Option (Nat × Bool)}

theorem r_load {T : TypeId} {x : Operand} {i o : Nat} {v : Value} (hx : aEv t x = some (.pointer (some ⟨i, o, none⟩))) (hT : ∀ w, (isAgg T).run P w = .ok false w) :
    ROk P N ⟨d, .load T x, ty, pos, af, g⟩ t [(i, o, v)] v := by
  intro h φ w a hc hr he
  have hev : V φ (.pointer (some ⟨i, o, none⟩)) (a.eval x) := by
    cases x with
    | tmp k =>
      obtain ⟨v', h1, h2⟩ := he k _ hx
      have : a.eval (.tmp k) = v' := by simp [Act.eval, h1]
      rw [this]; exact h2
    | const u =>
      simp only [aEv] at hx
      split at hx
      · rename_i hf
        obtain rfl := Option.some.inj hx
        cases hf
      · cases hx
    | global g => cases hx
    | func f => cases hx
  obtain ⟨L, hL, e⟩ := hev.inv_ptr
  obtain ⟨v', h1, h2⟩ := hr i o v L hL (hc (i, o, v) (by simp))
  exact ⟨v', by simp [execOp, e, Instr.loadAt, Instr.sureAddr, loadVar, hT, h1], h2⟩

def cellsFrom (i : Nat) : Nat → List Value → List (Nat × Nat × Value)
  | _, [] => []
  | o, v :: vs => (i, o, v) :: cellsFrom i (o + 1) vs
theorem mem_cellsFrom {i : Nat} : ∀ (vs : List Value) (o j : Nat) (v : Value), vs[j]? = some v → (i, o + j, v) ∈ cellsFrom i o vs
  | [], o, j, v, h => by simp at h
  | u :: vs, o, 0, v, h => by simp at h; subst h; simp [cellsFrom]
  | u :: vs, o, j + 1, v, h => by
    simp at h
    have := mem_cellsFrom (i := i) vs (o + 1) j v h
    simp only [cellsFrom, List.mem_cons]
    rw [show o + (j + 1) = o + 1 + j by omega]
    exact .inr this
theorem of_mem_cellsFrom {i : Nat} : ∀ (vs : List Value) (o : Nat) (c : Nat × Nat × Value), c ∈ cellsFrom i o vs → ∃ j, vs[j]? = some c.2.2 ∧ c.1 = i ∧ c.2.1 = o + j
  | [], o, c, h => by cases h
  | u :: vs, o, c, h => by
    simp only [cellsFrom, List.mem_cons] at h
    rcases h with rfl | h
    · exact ⟨0, rfl, rfl, rfl⟩
    · obtain ⟨j, h1, h2, h3⟩ := of_mem_cellsFrom vs (o + 1) c h
      exact ⟨j + 1, by simpa using h1, h2, by omega⟩

theorem r_loadN {T : TypeId} {x : Operand} {i o n : Nat} {vs : List Value} (hx : aEv t x = some (.pointer (some ⟨i, o, none⟩))) (hT : ∀ w, (isAgg T).run P w = .ok true w) (hn : ∀ w, (sizeOf T).run P w = .ok n w) (hlen : vs.length = n) :
    ROk P N ⟨d, .load T x, ty, pos, af, g⟩ t (cellsFrom i o vs) (.agg vs.toArray) := by
  intro h φ w a hc hr he
  have hev : V φ (.pointer (some ⟨i, o, none⟩)) (a.eval x) := by
    cases x with
    | tmp k =>
      obtain ⟨v', h1, h2⟩ := he k _ hx
      have : a.eval (.tmp k) = v' := by simp [Act.eval, h1]
      rw [this]; exact h2
    | const u =>
      simp only [aEv] at hx
      split at hx
      · rename_i hf
        obtain rfl := Option.some.inj hx
        cases hf
      · cases hx
    | global g => cases hx
    | func f => cases hx
  obtain ⟨L, hL, e⟩ := hev.inv_ptr
  have h1 : ∀ (j : Nat), j < vs.length → ∃ v', w.cell? ⟨L.block, L.off + o + j, none⟩ = some v' ∧ ∀ v, vs[j]? = some v → V φ v v' := fun j hj => by
    have e := List.getElem?_eq_getElem hj
    obtain ⟨v', h2, h3⟩ := hr i (o + j) _ L hL (hc _ (mem_cellsFrom vs o j _ e))
    exact ⟨v', by rw [Nat.add_assoc]; exact h2, fun v hv => by rw [e] at hv; obtain rfl := Option.some.inj hv; exact h3⟩
  let f : Nat → Value := fun j => (w.cell? ⟨L.block, L.off + o + j, none⟩).getD undef
  have hcells : ∀ (j : Nat) v', ((List.range vs.length).map f)[j]? = some v' → w.cell? ⟨L.block, L.off + o + j, none⟩ = some v' := by
    intro j v' e
    have hj : j < vs.length := by have := (List.getElem?_eq_some_iff.1 e).1; simpa using this
    obtain ⟨u, h2, _⟩ := h1 j hj
    simp [List.getElem?_map, List.getElem?_range hj, f, h2] at e
    rw [h2, e]
  have hrun := run_cells (P := P) hcells
  have hl : ((List.range vs.length).map f).length = n := by simp [hlen]
  rw [hl] at hrun
  refine ⟨.agg ((List.range vs.length).map f).toArray, by simp [execOp, e, Instr.loadAt, Instr.sureAddr, loadVar, hT, hn, hrun], .agg _ _ (by simp) fun j v v' e1 e2 => ?_⟩
  have e1' : vs[j]? = some v := by simpa using e1
  have hj := (List.getElem?_eq_some_iff.1 e1').1
  obtain ⟨u, h2, h3⟩ := h1 j hj
  have e2' : ((List.range vs.length).map f)[j]? = some v' := by simpa using e2
  have := hcells j v' e2'
  rw [h2] at this
  obtain rfl := Option.some.inj this
  exact h3 v e1'

theorem a_box {E : TypeId} {x : Operand} {v : Value} {i : Nat} (hx : aEv t x = some v) : AOk P N ⟨d, .box E x, ty, pos, af, g⟩ t v.cells.toList i (.pointer (some ⟨i, 0, none⟩)) := by
  intro φ w a he
  obtain ⟨h1, h2⟩ := cells_of_V (ev_ok he hx)
  exact ⟨.pointer (some ⟨w.heap.size, 0, none⟩), (a.eval x).cells, E, by simp [execOp, Instr.box, newVar, newRow], by simp; omega, fun j c c' e e' => h2 j c c' (by simpa using e) e', fun φ' h _ => .ptr i 0 ⟨w.heap.size, 0, _⟩ h⟩

theorem a_alloc {E : TypeId} {z : Value} {i : Nat} (hz : ∀ w, (zeroValue E).run P w = .ok z w) (hf : ∀ c ∈ z.cells.toList, flat0 c = true) : AOk P N ⟨d, .alloc E, ty, pos, af, g⟩ t z.cells.toList i (.pointer (some ⟨i, 0, none⟩)) := by
  intro φ w a he
  exact ⟨.pointer (some ⟨w.heap.size, 0, none⟩), z.cells, E, by simp [execOp, Instr.alloc, newVar, newRow, hz], by simp, fun j c c' e e' => by
    have e2 : z.cells[j]? = some c := by simpa using e
    rw [e2] at e'; obtain rfl := Option.some.inj e'
    exact flatV (hf c (by simpa using Array.mem_of_getElem? e2)), fun φ' h _ => .ptr i 0 ⟨w.heap.size, 0, _⟩ h⟩

theorem a_makeSlice {T E : TypeId} {x y : Operand} {k j : IntKind} {n c m by_ i : Nat} {z : Value} {ti : TypeInfo} (hx : aEv t x = some (.int k n)) (hy : aEv t y = some (.int j c)) (hT : P.underlying T = some (.slice E))
    (hi : ∀ w, (typeInfo E).run P w = .ok ti w) (hm : ∀ w, (sizeOf E).run P w = .ok m w) (hz : ∀ w, (zeroValue E).run P w = .ok z w) (hf : ∀ c ∈ z.cells.toList, flat0 c = true) (hzm : z.cells.size = m)
    (hb : ti.bytes = by_) (hnc : n ≤ c) (hsz : c * by_ ≤ 281474976710656) (hc : c < 9223372036854775808) (hm0 : 0 < m) :
    AOk P N ⟨d, .makeSlice T x y, ty, pos, af, g⟩ t ((List.replicate c z.cells.toList).flatten) i (.slice (some ⟨i, 0, none⟩) n c) := by
  intro φ w a he
  have hflat : ((Array.range (c * m)).map (fun i => z.cells[i % z.cells.size]!)).toList = ((List.replicate c z.cells.toList).flatten) := by
    have := replicate_cells (z := z.cells.toList) (m := m) (len := c) (by simpa using hzm) hm0
    rw [← this]
  have hq : ∀ x ∈ ((List.replicate c z.cells.toList).flatten), flat0 x = true := by
    intro x hx
    obtain ⟨l, hl, hxl⟩ := List.mem_flatten.1 hx
    rw [List.mem_replicate] at hl
    rw [hl.2] at hxl
    exact hf x hxl
  have w1 : IntKind.i64.wrap (n : Int) = n := by simp [IntKind.wrap, IntKind.bits, IntKind.signed]; omega
  have w2 : IntKind.i64.wrap (c : Int) = c := by simp [IntKind.wrap, IntKind.bits, IntKind.signed]; omega
  refine ⟨.slice (some ⟨w.heap.size, 0, none⟩) n c, (Array.range (c * m)).map (fun i => z.cells[i % z.cells.size]!), E, ?_, ?_, ?_, ?_⟩
  · have h1 : ¬ ((ti.bytes : Int) * (c : Int) > 281474976710656) := by rw [hb]; have := Int.ofNat_le.2 hsz; rw [Int.natCast_mul] at this; rw [Int.mul_comm]; omega
    have h2 : ¬ ((n : Int) > (c : Int)) := by omega
    have h3 : ¬ ((n : Int) < 0) := by omega
    have h4 : ¬ ((c : Int) < 0) := by omega
    by_cases h0 : c * m = 0
    · obtain rfl : c = 0 := by rcases Nat.mul_eq_zero.1 h0 with h | h <;> omega
      obtain rfl : n = 0 := by omega
      have w0 : IntKind.i64.wrap 0 = 0 := rfl
      simp [execOp, ev_int he hx, ev_int he hy, Instr.makeSlice, run_underlying hT, asInt, asIntOf, hi, w0, hm, newRow]
      rw [Array.eq_empty_of_size_eq_zero (show (Array.range 0).size = 0 by simp)]
      simp
    · simp [execOp, ev_int he hx, ev_int he hy, Instr.makeSlice, run_underlying hT, asInt, asIntOf, hi, w1, w2, h1, h2, h3, h4, hm, h0, hz, newRow]
  · rw [← hflat]; simp
  · intro j u u' e e'
    have hu := hq u (List.mem_of_getElem? e)
    rw [← hflat] at e
    have e2 := (Array.getElem?_toList).symm.trans e
    rw [e2] at e'; obtain rfl := Option.some.inj e'
    exact flatV hu
  · intro φ' h _
    refine .slice i 0 n c ⟨w.heap.size, 0, _⟩ c h (fun _ => rfl) (fun m' h => ?_) hnc
    unfold capU at h; omega

theorem a_buildSlice {T E : TypeId} {len m i : Nat} {ps : List (Nat × Operand)} {vs : List (Nat × Value)} {z : Value} {cs : List Value} (hp : ps.map (fun p => (p.1, aEv t p.2)) = vs.map (fun p => (p.1, some p.2)))
    (hT : P.underlying T = some (.slice E)) (hm : ∀ w, (sizeOf E).run P w = .ok m w) (hz : ∀ w, (zeroValue E).run P w = .ok z w) (hf : ∀ c ∈ z.cells.toList, flat0 c = true) (hzm : z.cells.size = m) (hm0 : 0 < m)
    (hlen : len * m ≤ 16777216) (hcs : partsOf m vs ((List.replicate len z.cells.toList).flatten) = some cs) (hl : cs.length = len * m) :
    AOk P N ⟨d, .buildSlice T len ps.toArray, ty, pos, af, g⟩ t cs i (.slice (some ⟨i, 0, none⟩) len len) := by
  intro φ w a he
  obtain ⟨q1, q2⟩ := parts_rel hp he
  have hq : ∀ x ∈ ((List.replicate len z.cells.toList).flatten), flat0 x = true := by
    intro x hx
    obtain ⟨l, hl, hxl⟩ := List.mem_flatten.1 hx
    rw [List.mem_replicate] at hl
    rw [hl.2] at hxl
    exact hf x hxl
  obtain ⟨cs', f1, f2, f3⟩ := fill_ok (φ := φ) (m := m) vs (ps.map (fun p => (p.1, a.eval p.2))) ((List.replicate len z.cells.toList).flatten) ((List.replicate len z.cells.toList).flatten) cs q1 q2 rfl (flat_self hq) hcs
  refine ⟨.slice (some ⟨w.heap.size, 0, none⟩) len len, cs'.toArray, E, ?_, by simp; omega, fun j c c' e e' => f3 j c c' e (by simpa using e'), fun φ' h _ => ?_⟩
  · have hbig : ¬ (len * m > 2 ^ 24) := by simpa using hlen
    have f1' : Instr.fill (fun i => some (i * m, m)) ((List.replicate len z.cells.toList).flatten).toArray (List.map (fun p => (p.1, a.eval p.2)) ps) = some cs'.toArray := f1
    have step : (Instr.buildSlice T len ((ps.map (fun p => (p.1, a.eval p.2))).toArray)).run P w = .ok (.slice (some ⟨w.heap.size, 0, none⟩) len len) (w.alloc (.cells cs'.toArray E)) := by
      unfold Instr.buildSlice
      by_cases h0 : len * m = 0
      · have hl0 : len = 0 := by rcases Nat.mul_eq_zero.1 h0 with h | h <;> omega
        have hr0 : ∀ zz : Array Value, (Array.range (len * m)).map (fun i => zz[i % zz.size]!) = ((List.replicate len z.cells.toList).flatten).toArray := fun zz => by
          subst hl0; simp
        simp only [Sem.run_bind, run_underlying hT, Result.andThen_ok, hm, if_neg hbig, if_pos h0, Sem.run_pure, hr0]
        rw [f1']
        simp [newRow]
      · have hr1 : (Array.range (len * m)).map (fun i => z.cells[i % z.cells.size]!) = ((List.replicate len z.cells.toList).flatten).toArray := by
          have := replicate_cells (z := z.cells.toList) (m := m) (len := len) (by simpa using hzm) hm0
          rw [← this]
        simp only [Sem.run_bind, run_underlying hT, Result.andThen_ok, hm, if_neg hbig, if_neg h0, Sem.run_pure, hz, hr1]
        rw [f1']
        simp [newRow]
    simp only [execOp, Sem.run_bind]
    rw [show (Array.map (fun (x : Nat × Operand) => match x with | (i, x) => (i, a.eval x)) ps.toArray) = (ps.map (fun p => (p.1, a.eval p.2))).toArray from by simp, step]
    rfl
  · refine .slice i 0 len len ⟨w.heap.size, 0, _⟩ len h (fun _ => rfl) (fun m' h => ?_) (Nat.le_refl _)
    have : len ≤ len * m := Nat.le_mul_of_pos_right _ hm0
    unfold capU at h; omega
end a

/-! ### the written order, an operation at a time -/
structure DEnd (P : Program) (N : Nat) (l₀ : List Oper) (Q : Exit → Env → AHeap → Prop) (t : Env) (H : AHeap) (es : List Ev) : Prop where
  st : staticOk l₀ l₀.toArray (es.map (·.kd.isWrite)) = true
  dyn : dynOk l₀ es
  q : Q .normal t H
/-- where the written order has got to -/
def DInv (l₀ : List Oper) (t₀ : Env) (H₀ : AHeap) (l : List Oper) (t : Env) (H : AHeap) (acc : List Ev) : Prop :=
  acc.length + l.length = l₀.length ∧ l₀.drop acc.length = l ∧ t = eAt l₀ acc t₀ acc.length ∧ H = hAt H₀ acc acc.length
def DTr (P : Program) (N : Nat) (l₀ : List Oper) (t₀ : Env) (H₀ : AHeap) (Q : Exit → Env → AHeap → Prop) (l : List Oper) (t : Env) (H : AHeap) (acc : List Ev) : Prop :=
  DInv l₀ t₀ H₀ l t H acc → ∃ es, Trace P N l₀.toArray l t H es ∧ staticOk l₀ l₀.toArray ((acc ++ es).map (·.kd.isWrite)) = true ∧ dynOk l₀ (acc ++ es) ∧ Q .normal (eAt l₀ (acc ++ es) t₀ l₀.length) (hAt H₀ (acc ++ es) l₀.length)
theorem vAt_app {acc es : List Ev} {k : Nat} (h : k < acc.length) : vAt (acc ++ es) k = vAt acc k := by
  unfold vAt; rw [List.getElem?_append_left h]
theorem eAt_app {l₀ : List Oper} {t₀ : Env} {acc es : List Ev} : ∀ {k : Nat}, k ≤ acc.length → eAt l₀ (acc ++ es) t₀ k = eAt l₀ acc t₀ k
  | 0, _ => rfl
  | k + 1, h => by
    show eput (eAt l₀ (acc ++ es) t₀ k) (dAt l₀ k) (vAt (acc ++ es) k) = eput (eAt l₀ acc t₀ k) (dAt l₀ k) (vAt acc k)
    rw [eAt_app (by omega), vAt_app (by omega)]
theorem DInv.next {l₀ : List Oper} {t₀ : Env} {H₀ : AHeap} {o : Oper} {l : List Oper} {t : Env} {H : AHeap} {acc : List Ev} (e : Ev) (h : DInv l₀ t₀ H₀ (o :: l) t H acc) : DInv l₀ t₀ H₀ l (eput t o.dst e.v) e.H' (acc ++ [e]) := by
  obtain ⟨h1, h2, h3, h4⟩ := h
  have hn : acc.length < l₀.length := by rw [← h1, List.length_cons]; omega
  have hget : l₀[acc.length]? = some o := by
    have h5 : (l₀.drop acc.length)[0]? = some o := by rw [h2]; rfl
    rw [List.getElem?_drop] at h5; simpa using h5
  refine ⟨by rw [List.length_append, List.length_singleton, ← h1, List.length_cons]; omega, ?_, ?_, ?_⟩
  · rw [List.length_append, List.length_singleton, ← List.drop_drop, h2]; rfl
  · rw [List.length_append, List.length_singleton]
    show _ = eput (eAt l₀ (acc ++ [e]) t₀ acc.length) (dAt l₀ acc.length) (vAt (acc ++ [e]) acc.length)
    rw [eAt_app (Nat.le_refl _), ← h3]
    have e1 : dAt l₀ acc.length = o.dst := by unfold dAt; rw [hget]; rfl
    have e2 : vAt (acc ++ [e]) acc.length = e.v := by unfold vAt; rw [List.getElem?_append_right (Nat.le_refl _), Nat.sub_self]; rfl
    rw [e1, e2]
  · rw [List.length_append, List.length_singleton]
    show _ = match (acc ++ [e])[acc.length]? with | some e => e.H' | none => H₀
    rw [List.getElem?_append_right (Nat.le_refl _), Nat.sub_self]; rfl

section d
variable {P : Program} {N : Nat} {l₀ : List Oper} {t₀ : Env} {H₀ : AHeap} {Q : Exit → Env → AHeap → Prop} {l : List Oper} {t : Env} {H : AHeap} {acc : List Ev}

theorem DTr.start {id : Nat} (hm : P.follows .mixedOrders = true) (h : DTr P N l t H Q l t H []) : AWp P N (.region id l.toArray true) t H Q := by
  obtain ⟨es, h1, h2, h3, h4⟩ := h ⟨by simp, rfl, rfl, rfl⟩
  exact AWp.drawn es hm h1 h2 h3 h4
theorem DTr.nil (h : DEnd P N l₀ Q t H acc) : DTr P N l₀ t₀ H₀ Q [] t H acc := by
  intro ⟨h1, _, h3, h4⟩
  have hl : l₀.length = acc.length := by rw [← h1]; rfl
  exact ⟨[], rfl, by rw [List.append_nil]; exact h.st, by rw [List.append_nil]; exact h.dyn, by rw [List.append_nil, hl, ← h3, ← h4]; exact h.q⟩
theorem DTr.cons {o : Oper} (e : Ev) (heH : e.H = H) (hd : ∀ k, o.dst = some k → k < N) (hsel : ∀ cs b, o.op ≠ .select cs b) (hop : OpEv P N l₀.toArray o (restr (o.looksAt l₀.toArray) t) e)
    (h : DTr P N l₀ t₀ H₀ Q l (eput t o.dst e.v) e.H' (acc ++ [e])) : DTr P N l₀ t₀ H₀ Q (o :: l) t H acc := by
  intro hi
  obtain ⟨es, h1, h2⟩ := h (hi.next e)
  exact ⟨e :: es, ⟨e, es, rfl, heH, hd, hsel, hop, h1⟩, by rw [List.append_assoc] at h2; exact h2⟩

/-- the operation is no select -/
def noSel : Op → Bool
  | .select _ _ => false
  | _ => true
theorem noSel_ok {op : Op} (h : noSel op = true) : ∀ cs b, op ≠ .select cs b := fun cs b e => by subst e; cases h

variable {d : Nat} {op : Op} {ty : TypeId} {pos : String} {af : Array Edge} {g : Option (Nat × Bool)} {v : Value}

theorem DTr.p (hd : Nat.blt d N = true) (hs : noSel op = true) (h : PureOk P N ⟨some d, op, ty, pos, af, none⟩ (restr (Oper.looksAt l₀.toArray ⟨some d, op, ty, pos, af, none⟩) t) v)
    (k : DTr P N l₀ t₀ H₀ Q l ((d, v) :: t) H (acc ++ [⟨.pure, v, H, H⟩])) : DTr P N l₀ t₀ H₀ Q (⟨some d, op, ty, pos, af, none⟩ :: l) t H acc :=
  DTr.cons ⟨.pure, v, H, H⟩ rfl (lt_of hd) (noSel_ok hs) ⟨trivial, h, rfl⟩ k
/-- the same, where it yields a bool that is looked at -/
theorem DTr.pb {b : Bool} (hd : Nat.blt d N = true) (hs : noSel op = true) (h : PureOk P N ⟨some d, op, ty, pos, af, none⟩ (restr (Oper.looksAt l₀.toArray ⟨some d, op, ty, pos, af, none⟩) t) (.bool b))
    (kT : b = true → DTr P N l₀ t₀ H₀ Q l ((d, .bool true) :: t) H (acc ++ [⟨.pure, .bool true, H, H⟩])) (kF : b = false → DTr P N l₀ t₀ H₀ Q l ((d, .bool false) :: t) H (acc ++ [⟨.pure, .bool false, H, H⟩])) :
    DTr P N l₀ t₀ H₀ Q (⟨some d, op, ty, pos, af, none⟩ :: l) t H acc := by
  cases b with
  | true => exact DTr.p hd hs h (kT rfl)
  | false => exact DTr.p hd hs h (kF rfl)
theorem DTr.gp {j e : Nat} {want : Bool} (hj : (l₀.toArray[j]?).bind (·.dst) = some e) (hb : eget (restr (Oper.looksAt l₀.toArray ⟨some d, op, ty, pos, af, some (j, want)⟩) t) e = some (.bool want)) (hd : Nat.blt d N = true) (hs : noSel op = true)
    (h : PureOk P N ⟨some d, op, ty, pos, af, some (j, want)⟩ (restr (Oper.looksAt l₀.toArray ⟨some d, op, ty, pos, af, some (j, want)⟩) t) v)
    (k : DTr P N l₀ t₀ H₀ Q l ((d, v) :: t) H (acc ++ [⟨.pure, v, H, H⟩])) : DTr P N l₀ t₀ H₀ Q (⟨some d, op, ty, pos, af, some (j, want)⟩ :: l) t H acc :=
  DTr.cons ⟨.pure, v, H, H⟩ rfl (lt_of hd) (noSel_ok hs) ⟨⟨e, hj, hb⟩, h, rfl⟩ k
theorem DTr.gpb {j e : Nat} {want b : Bool} (hj : (l₀.toArray[j]?).bind (·.dst) = some e) (hb : eget (restr (Oper.looksAt l₀.toArray ⟨some d, op, ty, pos, af, some (j, want)⟩) t) e = some (.bool want)) (hd : Nat.blt d N = true) (hs : noSel op = true)
    (h : PureOk P N ⟨some d, op, ty, pos, af, some (j, want)⟩ (restr (Oper.looksAt l₀.toArray ⟨some d, op, ty, pos, af, some (j, want)⟩) t) (.bool b))
    (kT : b = true → DTr P N l₀ t₀ H₀ Q l ((d, .bool true) :: t) H (acc ++ [⟨.pure, .bool true, H, H⟩])) (kF : b = false → DTr P N l₀ t₀ H₀ Q l ((d, .bool false) :: t) H (acc ++ [⟨.pure, .bool false, H, H⟩])) :
    DTr P N l₀ t₀ H₀ Q (⟨some d, op, ty, pos, af, some (j, want)⟩ :: l) t H acc := by
  cases b with
  | true => exact DTr.gp hj hb hd hs h (kT rfl)
  | false => exact DTr.gp hj hb hd hs h (kF rfl)
theorem DTr.gn {j e : Nat} {want : Bool} (hj : (l₀.toArray[j]?).bind (·.dst) = some e) (hb : eget (restr (Oper.looksAt l₀.toArray ⟨some d, op, ty, pos, af, some (j, want)⟩) t) e = some (.bool (!want))) (hd : Nat.blt d N = true) (hs : noSel op = true)
    (k : DTr P N l₀ t₀ H₀ Q l ((d, undef) :: t) H (acc ++ [⟨.skip, undef, H, H⟩])) : DTr P N l₀ t₀ H₀ Q (⟨some d, op, ty, pos, af, some (j, want)⟩ :: l) t H acc :=
  DTr.cons ⟨.skip, undef, H, H⟩ rfl (lt_of hd) (noSel_ok hs) ⟨⟨e, hj, .inl hb⟩, rfl, rfl⟩ k
theorem DTr.gu {j e : Nat} {want : Bool} (hj : (l₀.toArray[j]?).bind (·.dst) = some e) (hb : eget (restr (Oper.looksAt l₀.toArray ⟨some d, op, ty, pos, af, some (j, want)⟩) t) e = some undef) (hd : Nat.blt d N = true) (hs : noSel op = true)
    (k : DTr P N l₀ t₀ H₀ Q l ((d, undef) :: t) H (acc ++ [⟨.skip, undef, H, H⟩])) : DTr P N l₀ t₀ H₀ Q (⟨some d, op, ty, pos, af, some (j, want)⟩ :: l) t H acc :=
  DTr.cons ⟨.skip, undef, H, H⟩ rfl (lt_of hd) (noSel_ok hs) ⟨⟨e, hj, .inr hb⟩, rfl, rfl⟩ k
theorem DTr.r {cs : List (Nat × Nat × Value)} (hd : Nat.blt d N = true) (hs : noSel op = true) (h : ROk P N ⟨some d, op, ty, pos, af, none⟩ (restr (Oper.looksAt l₀.toArray ⟨some d, op, ty, pos, af, none⟩) t) cs v)
    (hc : ∀ c ∈ cs, hcell H c.1 c.2.1 = some c.2.2 ∧ Bel H.length c.2.2)
    (k : DTr P N l₀ t₀ H₀ Q l ((d, v) :: t) H (acc ++ [⟨.read cs, v, H, H⟩])) : DTr P N l₀ t₀ H₀ Q (⟨some d, op, ty, pos, af, none⟩ :: l) t H acc :=
  DTr.cons ⟨.read cs, v, H, H⟩ rfl (lt_of hd) (noSel_ok hs) ⟨trivial, h, hc, rfl⟩ k
theorem DTr.gr {j e : Nat} {want : Bool} {cs : List (Nat × Nat × Value)} (hj : (l₀.toArray[j]?).bind (·.dst) = some e) (hb : eget (restr (Oper.looksAt l₀.toArray ⟨some d, op, ty, pos, af, some (j, want)⟩) t) e = some (.bool want)) (hd : Nat.blt d N = true) (hs : noSel op = true)
    (h : ROk P N ⟨some d, op, ty, pos, af, some (j, want)⟩ (restr (Oper.looksAt l₀.toArray ⟨some d, op, ty, pos, af, some (j, want)⟩) t) cs v)
    (hc : ∀ c ∈ cs, hcell H c.1 c.2.1 = some c.2.2 ∧ Bel H.length c.2.2)
    (k : DTr P N l₀ t₀ H₀ Q l ((d, v) :: t) H (acc ++ [⟨.read cs, v, H, H⟩])) : DTr P N l₀ t₀ H₀ Q (⟨some d, op, ty, pos, af, some (j, want)⟩ :: l) t H acc :=
  DTr.cons ⟨.read cs, v, H, H⟩ rfl (lt_of hd) (noSel_ok hs) ⟨⟨e, hj, hb⟩, h, hc, rfl⟩ k
theorem DTr.a {cells : List Value} (hd : Nat.blt d N = true) (hs : noSel op = true) (h : AOk P N ⟨some d, op, ty, pos, af, none⟩ (restr (Oper.looksAt l₀.toArray ⟨some d, op, ty, pos, af, none⟩) t) cells H.length v)
    (k : DTr P N l₀ t₀ H₀ Q l ((d, v) :: t) (H ++ [.row false cells]) (acc ++ [⟨.alloc cells, v, H, H ++ [.row false cells]⟩])) : DTr P N l₀ t₀ H₀ Q (⟨some d, op, ty, pos, af, none⟩ :: l) t H acc :=
  DTr.cons (Ev.mk (.alloc cells) v H (H ++ [AObj.row false cells])) rfl (lt_of hd) (noSel_ok hs) ⟨trivial, h, rfl⟩ k
theorem DTr.w {H' : AHeap} (hd : Nat.blt d N = true) (hs : noSel op = true) (h : OpOk P N ⟨some d, op, ty, pos, af, none⟩ (restr (Oper.looksAt l₀.toArray ⟨some d, op, ty, pos, af, none⟩) t) H v H') (hl : H.length ≤ H'.length)
    (k : DTr P N l₀ t₀ H₀ Q l ((d, v) :: t) H' (acc ++ [⟨.write, v, H, H'⟩])) : DTr P N l₀ t₀ H₀ Q (⟨some d, op, ty, pos, af, none⟩ :: l) t H acc :=
  DTr.cons ⟨.write, v, H, H'⟩ rfl (lt_of hd) (noSel_ok hs) ⟨trivial, h, hl⟩ k
theorem DTr.gw {j e : Nat} {want : Bool} {H' : AHeap} (hj : (l₀.toArray[j]?).bind (·.dst) = some e) (hb : eget (restr (Oper.looksAt l₀.toArray ⟨some d, op, ty, pos, af, some (j, want)⟩) t) e = some (.bool want)) (hd : Nat.blt d N = true) (hs : noSel op = true)
    (h : OpOk P N ⟨some d, op, ty, pos, af, some (j, want)⟩ (restr (Oper.looksAt l₀.toArray ⟨some d, op, ty, pos, af, some (j, want)⟩) t) H v H') (hl : H.length ≤ H'.length)
    (k : DTr P N l₀ t₀ H₀ Q l ((d, v) :: t) H' (acc ++ [⟨.write, v, H, H'⟩])) : DTr P N l₀ t₀ H₀ Q (⟨some d, op, ty, pos, af, some (j, want)⟩ :: l) t H acc :=
  DTr.cons ⟨.write, v, H, H'⟩ rfl (lt_of hd) (noSel_ok hs) ⟨⟨e, hj, hb⟩, h, hl⟩ k
/-- a store -/
theorem DTr.s {H' : AHeap} (hs : noSel op = true) (h : OpOk P N ⟨none, op, ty, pos, af, none⟩ (restr (Oper.looksAt l₀.toArray ⟨none, op, ty, pos, af, none⟩) t) H v H') (hl : H.length ≤ H'.length)
    (k : DTr P N l₀ t₀ H₀ Q l t H' (acc ++ [⟨.write, v, H, H'⟩])) : DTr P N l₀ t₀ H₀ Q (⟨none, op, ty, pos, af, none⟩ :: l) t H acc :=
  DTr.cons ⟨.write, v, H, H'⟩ rfl lt_of_none (noSel_ok hs) ⟨trivial, h, hl⟩ k

/-- no writer: nothing is asked of memory -/
theorem dyn_noWrite {ops : List Oper} {es : List Ev} (h : (es.all fun e => !e.kd.isWrite) = true) : dynOk ops es := by
  intro k e hk u f hu hf
  rw [List.all_eq_true] at h
  have := h f (List.mem_of_getElem? hu)
  rw [hf] at this; cases this
/-- no writer changes what was there -/
theorem dyn_keep {ops : List Oper} {es : List Ev} (h : ∀ f ∈ es, f.kd = .write → ∀ i, i < f.H.length → hget f.H' i = hget f.H i) (hmono : ∀ (k u : Nat) e f, k < u → es[k]? = some e → es[u]? = some f → (∃ c, e.kd = .alloc c) → e.H.length < f.H.length) : dynOk ops es := by
  intro k e hk u f hu hf hun
  have h1 := h f (List.mem_of_getElem? hu) hf
  cases hkd : e.kd <;> dsimp only
  · exact fun c _ hlt => h1 _ hlt
  · rename_i cells
    exact fun hku => h1 _ (hmono k u e f hku hk hu ⟨cells, hkd⟩)
/-- writers that change nothing -/
theorem dyn_same {ops : List Oper} {es : List Ev} (ha : (es.all fun e => match e.kd with | .alloc _ => false | _ => true) = true) (h : ∀ f ∈ es, f.kd = .write → f.H' = f.H) : dynOk ops es := by
  intro k e hk u f hu hf hun
  have h1 := h f (List.mem_of_getElem? hu) hf
  rw [List.all_eq_true] at ha
  have h2 := ha e (List.mem_of_getElem? hk)
  cases hkd : e.kd <;> dsimp only
  · exact fun c _ _ => by rw [h1]
  · rw [hkd] at h2; cases h2
theorem one_read {H : AHeap} {i o n : Nat} {v : Value} (h : hcell H i o = some v) (hb : Bel n v) : ∀ c ∈ [(i, o, v)], hcell H c.1 c.2.1 = some c.2.2 ∧ Bel n c.2.2 := by
  intro c hc
  rw [List.mem_singleton] at hc
  subst hc
  exact ⟨h, hb⟩
theorem many_read {H : AHeap} {i n : Nat} {vs : List Value} (h : ∀ (j : Nat) v, vs[j]? = some v → hcell H i (0 + j) = some v) (hf : ∀ v ∈ vs, flat0 v = true) : ∀ c ∈ cellsFrom i 0 vs, hcell H c.1 c.2.1 = some c.2.2 ∧ Bel n c.2.2 := by
  intro c hc
  obtain ⟨j, h1, h2, h3⟩ := of_mem_cellsFrom vs 0 c hc
  rw [h2, h3]
  exact ⟨h j _ h1, .of_flat0 (hf _ (List.mem_of_getElem? h1))⟩
end d

end Go.Proofs.Ytocaepkkaihiiaa.Am
