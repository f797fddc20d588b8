/-
  An abstract machine over this model's programs, seventh part: append. No condition.
-/
import Derived.Test.YtocaepkkaihiiaaAm5
namespace Go.Proofs.Ytocaepkkaihiiaa.Am
open Go Go.RowKit
set_option linter.unusedVariables false
set_option linter.unusedSimpArgs false

theorem growBy_le (n : Nat) : ∀ (r c : Nat), Builtin.growBy n r c ≤ max c (2 * n + 192) := by
  intro r
  induction r with
  | zero => intro c; simp only [Builtin.growBy]; omega
  | succ r ih =>
    intro c
    simp only [Builtin.growBy]
    split
    · omega
    · have := ih (c + (c + 768) / 4); omega
theorem nextcap_le {n c : Nat} (h : c < n) : Builtin.nextslicecap n c ≤ 2 * n + 192 := by
  unfold Builtin.nextslicecap
  split
  · omega
  · split
    · omega
    · have := growBy_le n 4 c; omega

def roomy (need by_ : Nat) : Prop := need ≤ 4294967296 ∧ by_ ≤ 16384
theorem roomy_ok {need c by_ : Nat} (h : roomy need by_) (hc : c < need) : ¬ (Builtin.nextslicecap need c * by_ > 2 ^ 48) := by
  have h1 := nextcap_le hc
  have h2 : Builtin.nextslicecap need c * by_ ≤ 8589934784 * 16384 := Nat.mul_le_mul (by have := h.1; omega) h.2
  omega

theorem first_slice {P : Program} {w : World} {b q m n : Nat} {c : Nat} {len : Nat} {vs : List Value} (h : (loadCells ⟨b, q, none⟩ (n * m)).run P w = .ok vs.toArray w) :
    (Builtin.firstCells m n (.slice (some ⟨b, q, none⟩) len c)).run P w = .ok vs.toArray w := h

theorem zero_size (z : Array Value) (n : Nat) : (Builtin.zeroCells z n).size = n * z.size := by simp [Builtin.zeroCells]

/-- Append where there is no room: a new array, its capacity drawn. -/
theorem run_append_new {P : Program} {w : World} {sT xT E m by_ : Nat} {ti : TypeInfo} {dx : TypeDesc} {base : Option Addr} {sLen sCap n : Nat} {xa : Option Addr} {xc : Nat} {old new : Array Value} {z : Value} (ty : TypeId)
    (hT : P.underlying sT = some (.slice E)) (hX : P.underlying xT = some (.slice E)) (hi : ∀ w, (typeInfo E).run P w = .ok ti w) (hb : ti.bytes = by_) (hm : ∀ w, (sizeOf E).run P w = .ok m w) (hz : ∀ w, (zeroValue E).run P w = .ok z w)
    (hneed : sCap < sLen + n) (hroom : roomy (sLen + n) by_)
    (hold : (Builtin.firstCells m sLen (.slice base sLen sCap)).run P w.drew = .ok old w.drew) (hnew : (Builtin.firstCells m n (.slice xa n xc)).run P w.drew = .ok new w.drew) :
    ∃ cap, sLen + n ≤ cap ∧ (Builtin.append_ #[sT, xT] ty #[.slice base sLen sCap, .slice xa n xc]).run P w =
      .ok (.slice (some ⟨w.heap.size, 0, none⟩) (sLen + n) cap) (w.drew.alloc (.cells (old ++ new ++ Builtin.zeroCells z.cells (cap - (sLen + n))) E)) := by
  have hr := roomy_ok hroom hneed
  refine ⟨sLen + n + w.tape w.drawn (.appendCap (sLen + n) sCap E) % (2 ^ 63 - (sLen + n)), by omega, ?_⟩
  have h1 : ¬ (sLen + n ≤ sCap) := by omega
  have h2 : ¬ (9223372036854775807 < (sLen : Int) + (n : Int) ∧ by_ = 0) := by have := hroom.1; omega
  have hr' : ¬ (281474976710656 < Builtin.nextslicecap (sLen + n) sCap * by_) := by simpa using hr
  have hd : ({ w with drawn := w.drawn + 1 } : World) = w.drew := rfl
  have hmax : IntKind.i64.max = 9223372036854775807 := rfl
  simp [Builtin.append_, run_underlying hT, run_underlying hX, hm, Builtin.lenOf, h1, hi, hb, h2, hr', hmax, Question.forced, Question.cut, hold, hnew, hz, newRow]

/-- Append where there is room. -/
theorem run_append_in {P : Program} {w w' : World} {sT xT E m : Nat} {a : Addr} {sLen sCap n : Nat} {xa : Option Addr} {xc : Nat} {new : Array Value} (ty : TypeId)
    (hT : P.underlying sT = some (.slice E)) (hX : P.underlying xT = some (.slice E)) (hm : ∀ w, (sizeOf E).run P w = .ok m w)
    (hneed : sLen + n ≤ sCap) (hnew : (Builtin.firstCells m n (.slice xa n xc)).run P w = .ok new w) (hst : (storeCells (a.add (sLen * m)) new.toList 0).run P w = .ok () w') :
    (Builtin.append_ #[sT, xT] ty #[.slice (some a) sLen sCap, .slice xa n xc]).run P w = .ok (.slice (some a) (sLen + n) sCap) w' := by
  simp [Builtin.append_, run_underlying hT, run_underlying hX, hm, Builtin.lenOf, hneed, hnew, hst]

section mem
variable {P : Program} {N : Nat} {t : Env} {H : AHeap} {d : Option Tmp} {ty : TypeId} {pos : String} {af : Array Edge} {g : Option (Nat × Bool)}

/-- The cells behind a slice value: n elements of m cells. -/
def SliceIs (H : AHeap) (m : Nat) (v : Value) (vs : List Value) : Prop :=
  (∃ i o n c, v = .slice (some ⟨i, o, none⟩) n c ∧ vs.length = n * m ∧ ∀ (j : Nat) u, vs[j]? = some u → hcell H i (o + j) = some u) ∨ (v = .slice none 0 0 ∧ vs = [])

theorem sliceIs_run {W : World} {φ : Phi} {w : World} {m : Nat} {v v' : Value} {vs : List Value} (hs : Sim W φ H w) (hv : V φ v v') (h : SliceIs H m v vs) :
    ∃ (xa : Option Addr) (n xc : Nat) (vs' : List Value), v' = .slice xa n xc ∧ vs.length = n * m ∧ (∃ a c, v = .slice a n c) ∧ (∀ w2 : World, (∀ b q, w2.cell? ⟨b, q, none⟩ = w.cell? ⟨b, q, none⟩) → (Builtin.firstCells m n (.slice xa n xc)).run P w2 = .ok vs'.toArray w2) ∧ vs'.length = vs.length ∧
      ∀ (j : Nat) u u', vs[j]? = some u → vs'[j]? = some u' → V φ u u' := by
  rcases h with ⟨i, o, n, c, rfl, hl, hc⟩ | ⟨rfl, rfl⟩
  · by_cases hE : n ≠ 0 ∨ c ≠ capE
    case neg =>
      obtain ⟨h1, h2⟩ := not_or.1 hE
      obtain rfl := Classical.not_not.1 h1
      obtain rfl := Classical.not_not.1 h2
      obtain rfl : vs = [] := List.eq_nil_of_length_eq_zero (by simpa using hl)
      cases hv with
      | empty _ _ a c' => exact ⟨a, 0, c', [], rfl, by simp, ⟨_, _, rfl⟩, fun w2 _ => by cases a <;> simp [Builtin.firstCells, loadCells, loadCellsFrom] <;> rfl, rfl, fun j u u' e => by simp at e⟩
      | slice _ _ _ _ L c' h _ _ _ => exact ⟨_, 0, c', [], rfl, by simp, ⟨_, _, rfl⟩, fun w2 _ => by simp [Builtin.firstCells, loadCells, loadCellsFrom], rfl, fun j u u' e => by simp at e⟩
    obtain ⟨L, c', hL, rfl, _⟩ := hv.inv_slice hE
    obtain ⟨vs', h1, h2, h3⟩ := cells_at hs hL hc
    refine ⟨_, n, c', vs', rfl, hl, ⟨_, _, rfl⟩, fun w2 hw2 => ?_, h2, h3⟩
    show (loadCells ⟨L.block, L.off + o, none⟩ (n * m)).run P w2 = _
    rw [← hl, ← h2]
    exact run_cells fun j v' e => by rw [hw2]; exact h1 j v' e
  · obtain ⟨_, _, rfl⟩ := hv.inv_nilSlice
    exact ⟨none, 0, 0, [], rfl, by simp, ⟨_, _, rfl⟩, fun w2 _ => rfl, rfl, fun j u u' e => by simp at e⟩

theorem zeros_V (z : Array Value) (n : Nat) : True := trivial

/-- Append where the room is known and too small (a nil slice, a slice made or cut to size): a new row. -/
theorem m_append_new {sT xT E m by_ : Nat} {ti : TypeInfo} {s x : Operand} {sa xa : Option Addr} {sLen c n xc : Nat} {us vs : List Value} {z : Value} (hs0 : aEv t s = some (.slice sa sLen c)) (hx0 : aEv t x = some (.slice xa n xc))
    (hT : P.underlying sT = some (.slice E)) (hX : P.underlying xT = some (.slice E)) (hi : ∀ w, (typeInfo E).run P w = .ok ti w) (hb : ti.bytes = by_) (hm : ∀ w, (sizeOf E).run P w = .ok m w) (hz : ∀ w, (zeroValue E).run P w = .ok z w) (hzm : z.cells.size = m)
    (hus : SliceIs H m (.slice sa sLen c) us) (hvs : SliceIs H m (.slice xa n xc) vs) (hc : c < capU) (hneed : c < sLen + n) (hroom : roomy (sLen + n) by_) :
    OpOk P N ⟨d, .call { callee := .builtin .append, args := #[s, x], argTypes := #[sT, xT] }, ty, pos, af, g⟩ t H (.slice (some ⟨H.length, 0, none⟩) (sLen + n) (capU + m)) (H ++ [.row false (us ++ vs)]) := by
  intro W φ w a hs he
  obtain ⟨sa', sl, sc, us', e1, l1, ⟨q1, q2, q3⟩, f1, k1, v1⟩ := sliceIs_run (P := P) hs (ev_ok he hs0) hus
  obtain ⟨xa', xl, xc', vs', e2, l2, ⟨r1, r2, r3⟩, f2, k2, v2⟩ := sliceIs_run (P := P) hs (ev_ok he hx0) hvs
  obtain ⟨-, rfl, -⟩ := Value.slice.inj q3
  obtain ⟨-, rfl, -⟩ := Value.slice.inj r3
  have hsc : sc = c := by
    have := ev_ok he hs0
    rw [e1] at this
    cases this with
    | nilSlice => rfl
    | slice _ _ _ _ _ _ _ hcc _ _ => exact hcc hc
    | empty => unfold capE at hc; omega
  subst hsc
  obtain ⟨cap, hcap, hrun⟩ := run_append_new (P := P) (w := w) (by_ := by_) (dx := .slice E) (base := sa') (sLen := sLen) (sCap := sc) (n := n) (xa := xa') (xc := xc') ty hT hX hi hb hm hz hneed hroom (f1 w.drew fun _ _ => rfl) (f2 w.drew fun _ _ => rfl)
  have hsz : (us ++ vs).length = (sLen + n) * m := by rw [List.length_append, l1, l2, Nat.add_mul]
  have hsz' : (us' ++ vs').length = (us ++ vs).length := by simp [k1, k2]
  have hlen : (us'.toArray ++ vs'.toArray ++ Builtin.zeroCells z.cells (cap - (sLen + n))).size = cap * m := by
    have : (us'.toArray ++ vs'.toArray).size = (sLen + n) * m := by simp only [Array.size_append, List.size_toArray]; simp only [List.length_append] at hsz hsz'; omega
    rw [Array.size_append, this, zero_size, hzm, ← Nat.add_mul]
    congr 1; omega
  obtain ⟨φ', g1, g2, g3, g4⟩ := alloc_ok hs.drew (us ++ vs) (us'.toArray ++ vs'.toArray ++ Builtin.zeroCells z.cells (cap - (sLen + n))) E
    (by rw [hlen, hsz]; exact Nat.mul_le_mul_right _ hcap) (fun j u u' h h' => by
      have hj : j < (us ++ vs).length := (List.getElem?_eq_some_iff.1 h).1
      have h2 : (us' ++ vs')[j]? = some u' := by
        rw [Array.getElem?_append_left (by simp only [Array.size_append, List.size_toArray]; simp only [List.length_append] at hj; omega)] at h'
        simpa using h'
      rcases Nat.lt_or_ge j us.length with hlt | hge
      · rw [List.getElem?_append_left hlt] at h
        rw [List.getElem?_append_left (by omega)] at h2
        exact v1 j u u' h h2
      · rw [List.getElem?_append_right hge] at h
        rw [List.getElem?_append_right (by omega), k1] at h2
        exact v2 _ u u' h h2)
  refine Does.of_value (v := .slice (some ⟨w.heap.size, 0, none⟩) (sLen + n) cap) ?_ ⟨φ', g1, ?_, (Step.drew _ _ _).trans g2⟩
  · simp only [execOp, resolve, invoke, builtin]
    simp [e1, e2, hrun]
  · refine .slice H.length 0 (sLen + n) (capU + m) ⟨w.heap.size, 0, _⟩ cap g3 (fun h => by omega) (fun m' h => ?_) hcap
    obtain rfl : m = m' := by omega
    rw [hlen]; dsimp only; omega

/-- Append of nothing to what is not of unknown room. -/
theorem m_append_none {sT xT E m : Nat} {s x : Operand} {sa xa : Option Addr} {sLen c xc : Nat} {us : List Value} (hs0 : aEv t s = some (.slice sa sLen c)) (hx0 : aEv t x = some (.slice xa 0 xc))
    (hT : P.underlying sT = some (.slice E)) (hX : P.underlying xT = some (.slice E)) (hm : ∀ w, (sizeOf E).run P w = .ok m w) :
    OpOk P N ⟨d, .call { callee := .builtin .append, args := #[s, x], argTypes := #[sT, xT] }, ty, pos, af, g⟩ t H (.slice sa sLen c) H := by
  intro W φ w a hs he
  have h1 := ev_ok he hs0
  have h2 := ev_ok he hx0
  have hfirst : ∀ u : Value, V φ (.slice xa 0 xc) u → ∃ xa' xc', u = .slice xa' 0 xc' ∧ (Builtin.firstCells m 0 (.slice xa' 0 xc')).run P w = .ok #[] w := by
    intro u hu
    cases hu with
    | nilSlice => exact ⟨_, _, rfl, rfl⟩
    | slice i o n c L c' h _ _ _ => exact ⟨_, _, rfl, by simp [Builtin.firstCells, loadCells, loadCellsFrom]⟩
    | empty i o ad c' => exact ⟨_, _, rfl, by cases ad <;> simp [Builtin.firstCells, loadCells, loadCellsFrom] <;> rfl⟩
  obtain ⟨xa', xc', e2, f2⟩ := hfirst _ h2
  have hbase : ∃ sa' sc, a.eval s = .slice sa' sLen sc ∧ sLen ≤ sc := by
    generalize a.eval s = u at h1
    cases h1 with
    | nilSlice => exact ⟨_, _, rfl, Nat.le_refl _⟩
    | slice i o n c L c' h _ _ hn => exact ⟨_, _, rfl, hn⟩
    | empty i o ad c' => exact ⟨_, _, rfl, Nat.zero_le _⟩
  obtain ⟨sa', sc, e1, hle⟩ := hbase
  rw [e1] at h1
  refine Does.of_value (v := .slice sa' sLen sc) (w' := w) ?_ ⟨φ, hs, h1, Step.refl _ _ _⟩
  simp only [execOp, resolve, invoke, builtin]
  cases sa' with
  | none => simp [e1, e2, Builtin.append_, run_underlying hT, run_underlying hX, hm, Builtin.lenOf, hle, f2]
  | some ad => simp [e1, e2, Builtin.append_, run_underlying hT, run_underlying hX, hm, Builtin.lenOf, hle, f2, storeCells]

/-- Append to what append made: the old number is spoken of no more. -/
theorem m_append_u {sT xT E m by_ : Nat} {ti : TypeInfo} {s x : Operand} {xa : Option Addr} {i o sLen n xc : Nat} {us vs cs : List Value} {z : Value} (hs0 : aEv t s = some (.slice (some ⟨i, o, none⟩) sLen (capU + m))) (hx0 : aEv t x = some (.slice xa n xc))
    (hT : P.underlying sT = some (.slice E)) (hX : P.underlying xT = some (.slice E)) (hi : ∀ w, (typeInfo E).run P w = .ok ti w) (hb : ti.bytes = by_) (hm : ∀ w, (sizeOf E).run P w = .ok m w) (hz : ∀ w, (zeroValue E).run P w = .ok z w) (hzm : z.cells.size = m)
    (hg : hget H i = .row false cs) (hus : SliceIs H m (.slice (some ⟨i, o, none⟩) sLen (capU + m)) us) (hvs : SliceIs H m (.slice xa n xc) vs) (hones : ∀ v ∈ vs, oneCell v = true) (hroom : roomy (sLen + n) by_) (hmU : Nat.blt m 1000000 = true) :
    OpOk P N ⟨d, .call { callee := .builtin .append, args := #[s, x], argTypes := #[sT, xT] }, ty, pos, af, g⟩ t H (.slice (some ⟨H.length, 0, none⟩) (sLen + n) (capU + m)) (H.set i .dead ++ [.row false (us ++ vs)]) := by
  intro W φ w a hs he
  obtain ⟨L, c', hL, e1, _, hu, hle⟩ := (ev_ok he hs0).inv_slice (.inr (by have := Nat.le_of_ble_eq_true hmU; unfold capE capU; omega))
  have hlt := hs.dom i L hL
  obtain ⟨xa', xl, xc', vs', e2, l2, ⟨r1, r2, r3⟩, f2, k2, v2⟩ := sliceIs_run (P := P) hs (ev_ok he hx0) hvs
  obtain ⟨-, rfl, -⟩ := Value.slice.inj r3
  obtain ⟨sa', sl, sc, us', e1', l1, ⟨q1, q2, q3⟩, f1, k1, v1⟩ := sliceIs_run (P := P) hs (ev_ok he hs0) hus
  obtain ⟨-, rfl, -⟩ := Value.slice.inj q3
  rw [e1] at e1'
  obtain ⟨rfl, -, rfl⟩ := Value.slice.inj e1'
  have hext := hu m rfl
  have hsz : (us ++ vs).length = (sLen + n) * m := by rw [List.length_append, l1, l2, Nat.add_mul]
  have hobj := hs.obj i L hL
  rw [hg] at hobj
  have hucell : ∀ (j : Nat) u, us[j]? = some u → hcell H i (o + j) = some u := by
    rcases hus with ⟨i', o', n', c', e, _, hc⟩ | ⟨e, _⟩
    · obtain ⟨ea, _, _⟩ := Value.slice.inj e
      cases ea
      exact hc
    · cases e
  rcases Nat.lt_or_ge c' (sLen + n) with hfull | hin
  · obtain ⟨cap, hcap, hrun⟩ := run_append_new (P := P) (w := w) (by_ := by_) (dx := .slice E) (base := some ⟨L.block, L.off + o, none⟩) (sLen := sLen) (sCap := c') (n := n) (xa := xa') (xc := xc') ty hT hX hi hb hm hz hfull hroom (f1 w.drew fun _ _ => rfl) (f2 w.drew fun _ _ => rfl)
    have hlen : (us'.toArray ++ vs'.toArray ++ Builtin.zeroCells z.cells (cap - (sLen + n))).size = cap * m := by
      have : (us'.toArray ++ vs'.toArray).size = (sLen + n) * m := by simp only [Array.size_append, List.size_toArray]; simp only [List.length_append] at hsz; omega
      rw [Array.size_append, this, zero_size, hzm, ← Nat.add_mul]
      congr 1; omega
    obtain ⟨φ', g1, g2, g3, g4⟩ := alloc_ok hs.drew (us ++ vs) (us'.toArray ++ vs'.toArray ++ Builtin.zeroCells z.cells (cap - (sLen + n))) E
      (by rw [hlen, hsz]; exact Nat.mul_le_mul_right _ hcap) (fun j u u' h h' => by
        have hj : j < (us ++ vs).length := (List.getElem?_eq_some_iff.1 h).1
        have h2 : (us' ++ vs')[j]? = some u' := by
          rw [Array.getElem?_append_left (by simp only [Array.size_append, List.size_toArray]; simp only [List.length_append] at hj; omega)] at h'
          simpa using h'
        rcases Nat.lt_or_ge j us.length with hlt | hge
        · rw [List.getElem?_append_left hlt] at h
          rw [List.getElem?_append_left (by omega)] at h2
          exact v1 j u u' h h2
        · rw [List.getElem?_append_right hge] at h
          rw [List.getElem?_append_right (by omega), k1] at h2
          exact v2 _ u u' h h2)
    obtain ⟨g5, g6⟩ := kill_ok i g1
    have hset : (H ++ [AObj.row false (us ++ vs)]).set i .dead = H.set i .dead ++ [AObj.row false (us ++ vs)] := List.set_append_left _ _ hlt
    rw [hset] at g5 g6
    refine Does.of_value (v := .slice (some ⟨w.heap.size, 0, none⟩) (sLen + n) cap) ?_ ⟨φ', g5, ?_, ((Step.drew _ _ _).trans g2).trans g6⟩
    · simp only [execOp, resolve, invoke, builtin]
      simp [e1, e2, hrun]
    · refine .slice H.length 0 (sLen + n) (capU + m) ⟨w.heap.size, 0, _⟩ cap g3 (fun h => by omega) (fun m' h => ?_) hcap
      obtain rfl : m = m' := by omega
      rw [hlen]; dsimp only; omega
  · have hones' : ∀ v ∈ vs', oneCell v = true := by
      intro v' hv'
      obtain ⟨j, hj, e⟩ := List.getElem_of_mem hv'
      have hj2 : j < vs.length := by omega
      have := v2 j _ _ (List.getElem?_eq_getElem hj2) (List.getElem?_eq_getElem hj)
      rw [e] at this
      rw [this.oneCell]; exact hones _ (List.getElem_mem hj2)
    have hmul : (sLen + n) * m ≤ c' * m := Nat.mul_le_mul_right _ hin
    rw [Nat.add_mul] at hmul
    obtain ⟨w', hr, hw, hc⟩ := storeCells_run (P := P) L.block (L.off + o + sLen * m) vs' 0 w hones' (fun j hj => by
      have := hobj.there rfl (o + sLen * m + j) (by omega)
      rw [show L.off + o + sLen * m + (0 + j) = L.off + (o + sLen * m + j) by omega]; exact this)
    rw [Nat.add_zero] at hw
    obtain ⟨g1, g2⟩ := rewrite_ok (cs2 := []) hs hL hg hw (by omega) (by omega) (by simp) (fun j c h => by simp at h)
    have hset : hget (H.set i (.row false [])) i = .row false [] := hget_set_same _ hlt
    obtain ⟨φ', g3, g4, g5, g6⟩ := move_ok (o := o) (cs2 := us ++ vs) g1 hL hset (by rw [hsz, Nat.add_mul]; omega) (fun j u h => by
      rcases Nat.lt_or_ge j us.length with hlt | hge
      · rw [List.getElem?_append_left hlt] at h
        rw [hw.cell _ _ (by omega)]
        have h3 := hucell j u h
        obtain ⟨u', h4, h5⟩ := cell_ok hs hL h3
        exact ⟨u', by rw [Nat.add_assoc]; exact h4, h5⟩
      · rw [List.getElem?_append_right hge] at h
        have hj : j - us.length < vs'.length := by have := (List.getElem?_eq_some_iff.1 h).1; omega
        refine ⟨vs'[j - us.length], ?_, v2 _ _ _ h (List.getElem?_eq_getElem hj)⟩
        have := hc (j - us.length) _ (List.getElem?_eq_getElem hj)
        rw [show L.off + o + sLen * m + (0 + (j - us.length)) = L.off + o + j by omega] at this
        exact this)
    have hss : (H.set i (AObj.row false [])).set i .dead = H.set i .dead := List.set_set ..
    rw [hss] at g3 g4
    rw [List.length_set] at g5
    refine Does.of_value (v := .slice (some ⟨L.block, L.off + o, none⟩) (sLen + n) c') (w' := w') ?_ ⟨φ', g3, ?_, g2.trans g4⟩
    · have hrun := run_append_in (P := P) (w := w) (w' := w') (m := m) (a := ⟨L.block, L.off + o, none⟩) (sLen := sLen) (sCap := c') (n := n) (xa := xa') (xc := xc') (new := vs'.toArray) ty hT hX hm hin (f2 w fun _ _ => rfl) (by rw [add_none]; exact hr)
      simp only [execOp, resolve, invoke, builtin]
      simp [e1, e2, hrun]
    · have := V.slice (φ := φ') H.length 0 (sLen + n) (capU + m) ⟨L.block, L.off + o, L.ext - o⟩ c' g5 (fun h => by omega) (fun m' h => by
        obtain rfl : m = m' := by omega
        dsimp only; omega) hin
      simpa using this

end mem
end Go.Proofs.Ytocaepkkaihiiaa.Am
