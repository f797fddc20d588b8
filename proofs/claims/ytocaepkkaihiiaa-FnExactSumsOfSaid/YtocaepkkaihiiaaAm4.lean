/-
  An abstract machine over this model's programs, fifth part: the operations that read, write or make memory. No condition.
-/
import Derived.Test.YtocaepkkaihiiaaAm3
namespace Go.Proofs.Ytocaepkkaihiiaa.Am
open Go Go.RowKit
set_option linter.unusedVariables false
set_option linter.unusedSimpArgs false

/-- One cell of abstract memory. -/
def hcell (H : AHeap) (i o : Nat) : Option Value :=
  match hget H i with
  | .row _ cs => cs[o]?
  | _ => none

theorem cell_ok {W : World} {φ : Phi} {H : AHeap} {w : World} (hs : Sim W φ H w) {i o : Nat} {L : Loc} {v : Value} (hL : φ i = some L) (hc : hcell H i o = some v) :
    ∃ v', w.cell? ⟨L.block, L.off + o, none⟩ = some v' ∧ V φ v v' := by
  have := hs.obj i L hL
  unfold hcell at hc
  cases ho : hget H i with
  | dead => rw [ho] at hc; cases hc
  | row ro cs => rw [ho] at hc this; exact this.reads o v hc
  | map es => rw [ho] at hc; cases hc

theorem run_load_cell {P : Program} {w : World} {a : Addr} {v : Value} (h : w.cell? a = some v) : (load a).run P w = .ok v w := by simp [h]

/-- several cells -/
theorem cells_at {W : World} {φ : Phi} {H : AHeap} {w : World} (hs : Sim W φ H w) {i o : Nat} {L : Loc} {vs : List Value} (hL : φ i = some L)
    (hc : ∀ (j : Nat) v, vs[j]? = some v → hcell H i (o + j) = some v) :
    ∃ vs' : List Value, (∀ (j : Nat) v', vs'[j]? = some v' → w.cell? ⟨L.block, L.off + o + j, none⟩ = some v') ∧ vs'.length = vs.length ∧ ∀ (j : Nat) v v', vs[j]? = some v → vs'[j]? = some v' → V φ v v' := by
  have h1 : ∀ (j : Nat), j < vs.length → ∃ v', w.cell? ⟨L.block, L.off + o + j, none⟩ = some v' ∧ ∀ v, vs[j]? = some v → V φ v v' := fun j hj => by
    have e := List.getElem?_eq_getElem hj
    obtain ⟨v', h2, h3⟩ := cell_ok hs hL (hc j _ e)
    exact ⟨v', by rw [Nat.add_assoc]; exact h2, fun v hv => by rw [e] at hv; obtain rfl := Option.some.inj hv; exact h3⟩
  let f : Nat → Value := fun j => (w.cell? ⟨L.block, L.off + o + j, none⟩).getD undef
  refine ⟨(List.range vs.length).map f, ?_, by simp, ?_⟩
  · intro j v' e
    have hj : j < vs.length := by have := (List.getElem?_eq_some_iff.1 e).1; simpa using this
    obtain ⟨u, h2, _⟩ := h1 j hj
    simp [List.getElem?_map, List.getElem?_range hj, f, h2] at e
    rw [h2, e]
  · intro j v v' e e'
    have hj := (List.getElem?_eq_some_iff.1 e).1
    obtain ⟨u, h2, h3⟩ := h1 j hj
    simp [List.getElem?_map, List.getElem?_range hj, f, h2] at e'
    subst e'
    exact h3 v e

theorem run_cells {P : Program} {w : World} {b q : Nat} {vs' : List Value} (h : ∀ (j : Nat) v', vs'[j]? = some v' → w.cell? ⟨b, q + j, none⟩ = some v') :
    (loadCells ⟨b, q, none⟩ vs'.length).run P w = .ok vs'.toArray w :=
  run_loadCells_list w ⟨b, q, none⟩ vs' (fun j v e => by rw [add_none]; exact h j v e)

theorem cells_ok {P : Program} {W : World} {φ : Phi} {H : AHeap} {w : World} (hs : Sim W φ H w) {i o : Nat} {L : Loc} {vs : List Value} (hL : φ i = some L)
    (hc : ∀ (j : Nat) v, vs[j]? = some v → hcell H i (o + j) = some v) :
    ∃ vs' : List Value, (loadCells ⟨L.block, L.off + o, none⟩ vs.length).run P w = .ok vs'.toArray w ∧ vs'.length = vs.length ∧ ∀ (j : Nat) v v', vs[j]? = some v → vs'[j]? = some v' → V φ v v' := by
  obtain ⟨vs', h1, h2, h3⟩ := cells_at hs hL hc
  exact ⟨vs', by rw [← h2]; exact run_cells h1, h2, h3⟩

section mem
variable {P : Program} {N : Nat} {t : Env} {H : AHeap} {d : Option Tmp} {ty : TypeId} {pos : String} {af : Array Edge} {g : Option (Nat × Bool)}

/-- A load of one cell, at whatever memory has it. -/
theorem m_load {T : TypeId} {x : Operand} {i o : Nat} {v : Value} (hx : aEv t x = some (.pointer (some ⟨i, o, none⟩))) (hT : ∀ w, (isAgg T).run P w = .ok false w) (hc : hcell H i o = some v) :
    OpOk P N ⟨d, .load T x, ty, pos, af, g⟩ t H v H := by
  intro W φ w a hs he
  obtain ⟨L, hL, e⟩ := (ev_ok he hx).inv_ptr
  obtain ⟨v', h1, h2⟩ := cell_ok hs hL hc
  refine Does.of_value (v := v') (w' := w) ?_ ⟨φ, hs, h2, Step.refl _ _ _⟩
  simp [execOp, e, Instr.loadAt, Instr.sureAddr, loadVar, hT, h1]

/-- A load of a struct or an array. -/
theorem m_loadN {T : TypeId} {x : Operand} {i o n : Nat} {vs : List Value} (hx : aEv t x = some (.pointer (some ⟨i, o, none⟩))) (hT : ∀ w, (isAgg T).run P w = .ok true w) (hn : ∀ w, (sizeOf T).run P w = .ok n w)
    (hlen : vs.length = n) (hc : ∀ (j : Nat) v, vs[j]? = some v → hcell H i (o + j) = some v) :
    OpOk P N ⟨d, .load T x, ty, pos, af, g⟩ t H (.agg vs.toArray) H := by
  intro W φ w a hs he
  obtain ⟨L, hL, e⟩ := (ev_ok he hx).inv_ptr
  obtain ⟨vs', h1, h2, h3⟩ := cells_ok (P := P) hs hL hc
  rw [hlen] at h1
  refine Does.of_value (v := .agg vs'.toArray) (w' := w) ?_ ⟨φ, hs, .agg _ _ (by simp [h2]) (fun j v v' e e' => h3 j v v' (by simpa using e) (by simpa using e')), Step.refl _ _ _⟩
  simp [execOp, e, Instr.loadAt, Instr.sureAddr, loadVar, hT, hn, h1]

/-- A store of one cell into an owned row. -/
theorem m_store {T : TypeId} {x y : Operand} {i o : Nat} {v : Value} {cs : List Value} (hx : aEv t x = some (.pointer (some ⟨i, o, none⟩))) (hy : aEv t y = some v) (hv : oneCell v = true)
    (hn : ∀ w, (sizeOf T).run P w = .ok 1 w) (hg : hget H i = .row false cs) (ho : o < cs.length) :
    OpOk P N ⟨d, .store T x y, ty, pos, af, g⟩ t H undef (H.set i (.row false (cs.set o v))) := by
  intro W φ w a hs he
  obtain ⟨L, hL, e⟩ := (ev_ok he hx).inv_ptr
  have hV := ev_ok he hy
  obtain ⟨w', hr, h1, h2⟩ := store_ok (P := P) (o := o) (vs := [v]) (vs' := [a.eval y]) hs hL hg (by simp; omega) rfl
    (fun j u u' e1 e2 => by cases j with | zero => simp at e1 e2; subst e1; subst e2; exact hV | succ j => simp at e1) (by simpa using hv)
  refine Does.of_skip (w' := w') ?_ ⟨φ, h1, V.flat (.tuple _ (fun i v h => by simp at h)), h2⟩
  have hc : (a.eval y).cells = #[a.eval y] := by
    have := hV.oneCell; rw [hv] at this
    generalize a.eval y = u at this
    cases u <;> first | rfl | cases this
  simp [execOp, e, Instr.storeAt, Instr.sureAddr, storeVar, hn, hc, hr]

/-- A store of a struct or an array into an owned row. -/
theorem m_storeN {T : TypeId} {x y : Operand} {i o n : Nat} {vs cs : List Value} (hx : aEv t x = some (.pointer (some ⟨i, o, none⟩))) (hy : aEv t y = some (.agg vs.toArray)) (hv : ∀ v ∈ vs, oneCell v = true)
    (hn : ∀ w, (sizeOf T).run P w = .ok n w) (hlen : vs.length = n) (hg : hget H i = .row false cs) (ho : o + n ≤ cs.length) :
    OpOk P N ⟨d, .store T x y, ty, pos, af, g⟩ t H undef (H.set i (.row false (setMany cs o vs))) := by
  intro W φ w a hs he
  obtain ⟨L, hL, e⟩ := (ev_ok he hx).inv_ptr
  obtain ⟨cs', e', hsz, hV⟩ := (ev_ok he hy).inv_agg
  obtain ⟨w', hr, h1, h2⟩ := store_ok (P := P) (o := o) (vs := vs) (vs' := cs'.toList) hs hL hg (by omega) (by simp at hsz; simp [hsz])
    (fun j u u' e1 e2 => hV j u u' (by simpa using e1) (by simpa using e2)) hv
  refine Does.of_skip (w' := w') ?_ ⟨φ, h1, V.flat (.tuple _ (fun i v h => by simp at h)), h2⟩
  have hsz' : cs'.size = n := by simp at hsz; omega
  simp [execOp, e, e', Instr.storeAt, Instr.sureAddr, storeVar, hn, Value.cells, hsz', hr]

theorem cells_of_V {φ : Phi} {v v' : Value} (h : V φ v v') : v.cells.size = v'.cells.size ∧ ∀ (j : Nat) c c', v.cells[j]? = some c → v'.cells[j]? = some c' → V φ c c' := by
  cases h with
  | agg cs cs' h hc => exact ⟨h, hc⟩
  | _ =>
    refine ⟨rfl, fun j c c' e e' => ?_⟩
    cases j with
    | zero => simp [Value.cells] at e e'; subst e; subst e'; constructor <;> assumption
    | succ j => simp [Value.cells] at e

/-- A variable of its own. -/
theorem m_box {E : TypeId} {x : Operand} {v : Value} (hx : aEv t x = some v) :
    OpOk P N ⟨d, .box E x, ty, pos, af, g⟩ t H (.pointer (some ⟨H.length, 0, none⟩)) (H ++ [.row false v.cells.toList]) := by
  intro W φ w a hs he
  obtain ⟨h1, h2⟩ := cells_of_V (ev_ok he hx)
  obtain ⟨φ', k1, k2, k3, k4⟩ := alloc_ok hs v.cells.toList (a.eval x).cells E (by simp; omega) (fun j c c' e e' => h2 j c c' (by simpa using e) e')
  refine Does.of_value (v := .pointer (some ⟨w.heap.size, 0, none⟩)) (w' := w.alloc (.cells (a.eval x).cells E)) ?_ ⟨φ', k1, ?_, k2⟩
  · simp [execOp, Instr.box, newVar, newRow]
  · exact .ptr H.length 0 ⟨w.heap.size, 0, _⟩ k3

theorem m_alloc {E : TypeId} {z : Value} (hz : ∀ w, (zeroValue E).run P w = .ok z w) (hf : ∀ c ∈ z.cells.toList, flat0 c = true) :
    OpOk P N ⟨d, .alloc E, ty, pos, af, g⟩ t H (.pointer (some ⟨H.length, 0, none⟩)) (H ++ [.row false z.cells.toList]) := by
  intro W φ w a hs he
  obtain ⟨φ', k1, k2, k3, k4⟩ := alloc_ok hs z.cells.toList z.cells E (by simp) (fun j c c' e e' => by
    have e2 : z.cells[j]? = some c := by simpa using e
    rw [e2] at e'; obtain rfl := Option.some.inj e'
    exact flatV (hf c (by simpa using Array.mem_of_getElem? e2)))
  refine Does.of_value (v := .pointer (some ⟨w.heap.size, 0, none⟩)) (w' := w.alloc (.cells z.cells E)) ?_ ⟨φ', k1, ?_, k2⟩
  · simp [execOp, Instr.alloc, newVar, newRow, hz]
  · exact .ptr H.length 0 ⟨w.heap.size, 0, _⟩ k3

/-- make([]E, n, c): n at most c. -/
theorem m_makeSlice {T E : TypeId} {x y : Operand} {k j : IntKind} {n c m by_ : Nat} {z : Value} {ti : TypeInfo} (hx : aEv t x = some (.int k n)) (hy : aEv t y = some (.int j c)) (hT : P.underlying T = some (.slice E))
    (hi : ∀ w, (typeInfo E).run P w = .ok ti w) (hm : ∀ w, (sizeOf E).run P w = .ok m w) (hz : ∀ w, (zeroValue E).run P w = .ok z w) (hf : ∀ c ∈ z.cells.toList, flat0 c = true) (hzm : z.cells.size = m)
    (hb : ti.bytes = by_) (hnc : n ≤ c) (hsz : c * by_ ≤ 281474976710656) (hc : c < 9223372036854775808) (hm0 : 0 < m) :
    OpOk P N ⟨d, .makeSlice T x y, ty, pos, af, g⟩ t H (.slice (some ⟨H.length, 0, none⟩) n c) (H ++ [.row false ((List.replicate c z.cells.toList).flatten)]) := by
  intro W φ w a hs he
  have hflat : ((List.replicate c z.cells.toList).flatten) = ((Array.range (c * m)).map (fun i => z.cells[i % z.cells.size]!)).toList := by
    have hl : z.cells.toList.length = m := by simp [hzm]
    apply List.ext_getElem?
    intro i
    rcases Nat.lt_or_ge i (c * m) with h | h
    · have hdm : i / m < c := Nat.div_lt_of_lt_mul (by rw [Nat.mul_comm]; exact h)
      have hmod : i % m < m := Nat.mod_lt _ hm0
      have key : ∀ (c i : Nat), i < c * m → ((List.replicate c z.cells.toList).flatten)[i]? = z.cells.toList[i % m]? := by
        intro c
        induction c with
        | zero => intro i hi; simp at hi
        | succ c ih =>
          intro i hi
          rw [List.replicate_succ, List.flatten_cons]
          rcases Nat.lt_or_ge i m with h' | h'
          · rw [List.getElem?_append_left (by omega), Nat.mod_eq_of_lt h']
          · rw [List.getElem?_append_right (by omega), hl, ih _ (by rw [Nat.succ_mul] at hi; omega), Nat.mod_eq_sub_mod h']
      rw [key c i h]
      have : (z.cells.toList)[i % m]? = some (z.cells[i % m]'(by omega)) := by simp [hzm, hmod]
      rw [this]
      simp [h, hzm, hmod]
    · have h1 : ((List.replicate c z.cells.toList).flatten).length = c * m := by simp [hzm]
      rw [List.getElem?_eq_none (by omega)]
      simp [h]
  have hq : ∀ x ∈ ((List.replicate c z.cells.toList).flatten), flat0 x = true := by
    intro x hx
    obtain ⟨l, hl, hxl⟩ := List.mem_flatten.1 hx
    rw [List.mem_replicate] at hl
    rw [hl.2] at hxl
    exact hf x hxl
  obtain ⟨φ', k1, k2, k3, k4⟩ := alloc_ok hs ((List.replicate c z.cells.toList).flatten) ((Array.range (c * m)).map (fun i => z.cells[i % z.cells.size]!)) E (by rw [hflat]; simp) (fun j u u' e e' => by
    have hu := hq u (List.mem_of_getElem? e)
    rw [hflat] at e
    have e2 := (Array.getElem?_toList).symm.trans e
    rw [e2] at e'; obtain rfl := Option.some.inj e'
    exact flatV hu)
  have w1 : IntKind.i64.wrap (n : Int) = n := by simp [IntKind.wrap, IntKind.bits, IntKind.signed]; omega
  have w2 : IntKind.i64.wrap (c : Int) = c := by simp [IntKind.wrap, IntKind.bits, IntKind.signed]; omega
  refine Does.of_value (v := .slice (some ⟨w.heap.size, 0, none⟩) n c) (w' := w.alloc (.cells ((Array.range (c * m)).map (fun i => z.cells[i % z.cells.size]!)) E)) ?_ ⟨φ', k1, ?_, k2⟩
  · have h1 : ¬ ((ti.bytes : Int) * (c : Int) > 281474976710656) := by rw [hb]; have := Int.ofNat_le.2 hsz; rw [Int.natCast_mul] at this; rw [Int.mul_comm]; omega
    have h2 : ¬ ((n : Int) > (c : Int)) := by omega
    have h3 : ¬ ((n : Int) < 0) := by omega
    have h4 : ¬ ((c : Int) < 0) := by omega
    by_cases h0 : c * m = 0
    · obtain rfl : c = 0 := by rcases Nat.mul_eq_zero.1 h0 with h | h <;> omega
      obtain rfl : n = 0 := by omega
      have w0 : IntKind.i64.wrap 0 = 0 := rfl
      simp [execOp, ev_int he hx, ev_int he hy, Instr.makeSlice, run_underlying hT, asInt, asIntOf, hi, w0, hm, newRow]
      rw [Array.eq_empty_of_size_eq_zero (show (Array.range 0).size = 0 by simp)]
      simp
    · simp [execOp, ev_int he hx, ev_int he hy, Instr.makeSlice, run_underlying hT, asInt, asIntOf, hi, w1, w2, h1, h2, h3, h4, hm, h0, hz, newRow]
  · refine .slice H.length 0 n c ⟨w.heap.size, 0, _⟩ c k3 (fun _ => rfl) (fun m' h => ?_) hnc
    unfold capU at h; omega

end mem
end Go.Proofs.Ytocaepkkaihiiaa.Am
