/-
  Rules in the shape in which a program prints them: slices made, arrays in rows. No condition.
-/
import Derived.Test.YtocaepkkaihiiaaAm13
namespace Go.Proofs.Ytocaepkkaihiiaa.Am
open Go Go.RowKit
set_option linter.unusedVariables false
set_option linter.unusedSimpArgs false

theorem flatten_single : ∀ (c : Nat) (x : Int), (List.replicate c [x]).flatten = List.replicate c x
  | 0, _ => rfl
  | c + 1, x => by rw [List.replicate_succ, List.replicate_succ, List.flatten_cons, flatten_single c x]; rfl
theorem ints_flatten : ∀ (l : List (List Int)), (l.map ints).flatten = ints l.flatten
  | [] => rfl
  | r :: l => by rw [List.map_cons, List.flatten_cons, ints_flatten l, List.flatten_cons]; simp [ints]
section
variable {P : Program} {N : Nat} {t : Env} {H : AHeap} {d : Option Tmp} {ty : TypeId} {pos : String} {af : Array Edge} {g : Option (Nat × Bool)}
theorem make_cells {c : Nat} {r : List Int} : ((List.replicate c (ints r)).flatten) = ints (List.replicate c r).flatten := by
  rw [← ints_flatten, List.map_replicate]
theorem s_makeRows {T E : TypeId} {x y : Operand} {k j : IntKind} {n c m by_ i : Nat} {z : Value} {r : List Int} {ti : TypeInfo} {H' : AHeap} (hT : P.underlying T = some (.slice E)) (hi : ∀ w, (typeInfo E).run P w = .ok ti w) (hm : ∀ w, (sizeOf E).run P w = .ok m w)
    (hz : ∀ w, (zeroValue E).run P w = .ok z w) (hzc : z.cells.toList = ints r) (hr : r.length = m) (hb : ti.bytes = by_) (hx : aEv t x = some (.int k n)) (hy : aEv t y = some (.int j c)) (hnc : n ≤ c) (hsz : c * by_ ≤ 281474976710656) (hc : c < 9223372036854775808) (hm0 : 0 < m)
    (hidx : H.length = i) (hH : H ++ [AObj.row false (ints (List.replicate c r).flatten)] = H') : OpOk P N ⟨d, .makeSlice T x y, ty, pos, af, g⟩ t H (.slice (some ⟨i, 0, none⟩) n c) H' := by
  subst hidx hH
  have := m_makeSlice (N := N) (d := d) (ty := ty) (pos := pos) (af := af) (g := g) (H := H) hx hy hT hi hm hz (by rw [hzc]; exact ints_flat) (by rw [← Array.length_toList, hzc, ints_length]; exact hr) hb hnc hsz hc hm0
  rw [hzc, make_cells] at this
  exact this
theorem s_makeInts {T E : TypeId} {x y : Operand} {k j : IntKind} {n c by_ i : Nat} {z : Value} {ti : TypeInfo} {H' : AHeap} (hT : P.underlying T = some (.slice E)) (hi : ∀ w, (typeInfo E).run P w = .ok ti w) (hm : ∀ w, (sizeOf E).run P w = .ok 1 w)
    (hz : ∀ w, (zeroValue E).run P w = .ok z w) (hzc : z.cells.toList = ints [0]) (hb : ti.bytes = by_) (hx : aEv t x = some (.int k n)) (hy : aEv t y = some (.int j c)) (hnc : n ≤ c) (hsz : c * by_ ≤ 281474976710656) (hc : c < 9223372036854775808)
    (hidx : H.length = i) (hH : H ++ [AObj.row false (ints (List.replicate c 0))] = H') : OpOk P N ⟨d, .makeSlice T x y, ty, pos, af, g⟩ t H (.slice (some ⟨i, 0, none⟩) n c) H' :=
  s_makeRows hT hi hm hz hzc rfl hb hx hy hnc hsz hc Nat.one_pos hidx (by rw [flatten_single]; exact hH)
/-- an array over a row of a slice of arrays -/
theorem s_storeRow {T : TypeId} {x y : Operand} {i o q m : Nat} {l : List (List Int)} {r : List Int} {H' : AHeap} (hn : ∀ w, (sizeOf T).run P w = .ok m w) (hx : aEv t x = some (.pointer (some ⟨i, q, none⟩))) (hy : aEv t y = some (.agg (ints r).toArray))
    (hq : q = o * m) (hg : hget H i = .row false (ints l.flatten)) (hl : All m l) (hr : r.length = m) (ho : o < l.length) (hH : H.set i (.row false (ints (l.set o r).flatten)) = H') : OpOk P N ⟨d, .store T x y, ty, pos, af, g⟩ t H undef H' := by
  subst hH hq
  have hb : o * m + m ≤ l.length * m := by rw [← Nat.succ_mul]; exact Nat.mul_le_mul_right _ ho
  have := m_storeN (N := N) (d := d) (ty := ty) (pos := pos) (af := af) (g := g) hx hy (fun v h => ints_one v h) hn (by rw [ints_length]; exact hr) hg (by rw [ints_length, flat_len hl]; exact hb)
  rwa [flat_setMany hl hr ho] at this
end
theorem many_part {H : AHeap} {i o n : Nat} {vs : List Value} (h : ∀ (j : Nat) v, vs[j]? = some v → hcell H i (o + j) = some v) (hf : ∀ v ∈ vs, flat0 v = true) : ∀ c ∈ cellsFrom i o vs, hcell H c.1 c.2.1 = some c.2.2 ∧ Bel n c.2.2 := by
  intro c hc
  obtain ⟨j, h1, h2, h3⟩ := of_mem_cellsFrom vs o c hc
  rw [h2, h3]
  exact ⟨h j _ h1, .of_flat0 (hf _ (List.mem_of_getElem? h1))⟩
theorem row_lt {H : AHeap} {i : Nat} {ro : Bool} {cs : List Value} (h : hget H i = .row ro cs) : i < H.length := by
  rcases Nat.lt_or_ge i H.length with h' | h'
  · exact h'
  · rw [hget_ge h'] at h; cases h
theorem all_rep {m c : Nat} : All m (List.replicate c (List.replicate m 0)) := by
  intro r h; rw [List.eq_of_mem_replicate h, List.length_replicate]
theorem ends2 {P : Program} {N : Nat} {fn : Func} {H : AHeap} {v v₀ : Value} {H' H₀ : AHeap} {t : Env} {ex : Exit} (hex : ex = .normal ∨ ex = .ret) (hr : ResOk P N fn t H' v) (hf : Fin H v H' v₀ H₀) : Ends P N fn H v₀ H₀ ex t H' := ⟨hex, v, hr, hf⟩
theorem bel_nil {n : Nat} : ∀ v ∈ ([] : List Value), Bel n v := fun v h => by cases h
theorem bel_cons {n : Nat} {a : Value} {l : List Value} (h : Bel n a) (k : ∀ v ∈ l, Bel n v) : ∀ v ∈ a :: l, Bel n v := by
  intro v hv
  rcases List.mem_cons.1 hv with rfl | hv
  · exact h
  · exact k v hv
theorem many_bel {H : AHeap} {i o n : Nat} {vs : List Value} (h : ∀ (j : Nat) v, vs[j]? = some v → hcell H i (o + j) = some v) (hf : ∀ v ∈ vs, Bel n v) : ∀ c ∈ cellsFrom i o vs, hcell H c.1 c.2.1 = some c.2.2 ∧ Bel n c.2.2 := by
  intro c hc
  obtain ⟨j, h1, h2, h3⟩ := of_mem_cellsFrom vs o c hc
  rw [h2, h3]
  exact ⟨h j _ h1, hf _ (List.mem_of_getElem? h1)⟩
/-- writers that only add -/
theorem dyn_ext {ops : List Oper} {es : List Ev} (ha : (es.all fun e => match e.kd with | .alloc _ => false | _ => true) = true) (h : ∀ f ∈ es, f.kd = .write → ∃ l, f.H' = f.H ++ l) : dynOk ops es := by
  refine dyn_keep (fun f hf hk i hi => ?_) (fun k u e f hku hk hu hc => ?_)
  · obtain ⟨l, e⟩ := h f hf hk
    rw [e, hget_append_lt hi]
  · obtain ⟨c, hc⟩ := hc
    rw [List.all_eq_true] at ha
    have := ha e (List.mem_of_getElem? hk)
    rw [hc] at this; cases this
theorem flat_cell {m : Nat} {l : List (List Int)} (h : All m l) {i j : Nat} (hi : i < l.length) (hj : j < m) : (ints l.flatten)[i * m + j]? = some (.int .i64 (rd (rw_ l i) j)) :=
  flat_cells h hi j _ (ints_get (by rw [rw_len h hi]; exact hj))
/-- every writer stands in order with all that reads or makes -/
def Kd.isRA : Kd → Bool
  | .read _ | .alloc _ => true
  | _ => false
def ordOk (ops : List Oper) (wr ra : List Bool) : Bool :=
  let bef := befAll ops
  (List.range ra.length).all fun k => !(ra.getD k false) || (List.range wr.length).all fun u => !(wr.getD u false) || (bef.getD u []).contains k || (bef.getD k []).contains u
theorem dyn_ord {ops : List Oper} {es : List Ev} (h : ordOk ops (es.map fun e => e.kd.isWrite) (es.map fun e => e.kd.isRA) = true) : dynOk ops es := by
  intro k e hk u f hu hf hun
  unfold ordOk at h
  rw [List.all_eq_true] at h
  have hkl : k < es.length := (List.getElem?_eq_some_iff.1 hk).1
  have hul : u < es.length := (List.getElem?_eq_some_iff.1 hu).1
  have h1 := h k (List.mem_range.2 (by rw [List.length_map]; exact hkl))
  rw [Bool.or_eq_true, List.all_eq_true] at h1
  have e1 : (es.map fun e => e.kd.isRA).getD k false = e.kd.isRA := by rw [List.getD_eq_getElem?_getD, List.getElem?_map, hk]; rfl
  have e2 : (es.map fun e => e.kd.isWrite).getD u false = true := by rw [List.getD_eq_getElem?_getD, List.getElem?_map, hu]; show f.kd.isWrite = true; rw [hf]; rfl
  rcases h1 with h1 | h1
  · rw [e1] at h1
    cases hkd : e.kd <;> dsimp only <;> (rw [hkd] at h1; cases h1)
  · have h2 := h1 u (List.mem_range.2 (by rw [List.length_map]; exact hul))
    rw [e2] at h2
    simp only [Bool.not_true, Bool.false_or, Bool.or_eq_true, List.contains_iff_mem] at h2
    exact absurd h2 (not_or.2 hun)
theorem DTr.heap {P : Program} {N : Nat} {l₀ : List Oper} {t₀ : Env} {H₀ : AHeap} {Q : Exit → Env → AHeap → Prop} {l : List Oper} {t : Env} {H H' : AHeap} {acc : List Ev} (h : H = H') (k : DTr P N l₀ t₀ H₀ Q l t H' acc) : DTr P N l₀ t₀ H₀ Q l t H acc := h ▸ k
section
variable {P : Program} {N : Nat} {l₀ : List Oper} {t₀ : Env} {H₀ : AHeap} {Q : Exit → Env → AHeap → Prop} {l : List Oper} {t : Env} {H : AHeap} {acc : List Ev} {d : Nat} {op : Op} {ty : TypeId} {pos : String} {af : Array Edge} {v : Value}
theorem DTr.aI {cells : List Value} {i : Nat} {H' : AHeap} (hd : Nat.blt d N = true) (hs : noSel op = true) (hi : H.length = i) (hH : H ++ [AObj.row false cells] = H') (h : AOk P N ⟨some d, op, ty, pos, af, none⟩ (restr (Oper.looksAt l₀.toArray ⟨some d, op, ty, pos, af, none⟩) t) cells i v)
    (k : DTr P N l₀ t₀ H₀ Q l ((d, v) :: t) H' (acc ++ [⟨.alloc cells, v, H, H'⟩])) : DTr P N l₀ t₀ H₀ Q (⟨some d, op, ty, pos, af, none⟩ :: l) t H acc := by
  subst hi hH; exact DTr.a hd hs h k
end
theorem AWp.cutQ {P : Program} {N : Nat} {x : Code} {t : Env} {H : AHeap} {Q : Exit → Env → AHeap → Prop} (M : Env → AHeap → Prop) (h1 : AWp P N x t H (aThen M Q)) (h2 : ∀ t' H', M t' H' → Q .normal t' H') : AWp P N x t H Q :=
  h1.mono fun e t' H' h => by cases e <;> first | exact h2 _ _ h | exact h
def ordOk1 (ops : List Oper) (wr ra : List Bool) (k0 u0 : Nat) : Bool :=
  let bef := befAll ops
  (List.range ra.length).all fun k => !(ra.getD k false) || (List.range wr.length).all fun u => !(wr.getD u false) || (bef.getD u []).contains k || (bef.getD k []).contains u || (k == k0 && u == u0)
/-- the same, but for one reader and one writer -/
theorem dyn_one {ops : List Oper} {es : List Ev} (k0 u0 i : Nat) {e0 f0 : Ev} (he : es[k0]? = some e0) (hf0 : es[u0]? = some f0) (hr : ∀ cs, e0.kd = .read cs → ∀ c ∈ cs, c.1 = i) (ha : ∀ cells, e0.kd ≠ .alloc cells) (hh : hget f0.H' i = hget f0.H i)
    (h : ordOk1 ops (es.map fun e => e.kd.isWrite) (es.map fun e => e.kd.isRA) k0 u0 = true) : dynOk ops es := by
  intro k e hk u f hu hf hun
  unfold ordOk1 at h
  rw [List.all_eq_true] at h
  have hkl : k < es.length := (List.getElem?_eq_some_iff.1 hk).1
  have hul : u < es.length := (List.getElem?_eq_some_iff.1 hu).1
  have h1 := h k (List.mem_range.2 (by rw [List.length_map]; exact hkl))
  rw [Bool.or_eq_true, List.all_eq_true] at h1
  have e1 : (es.map fun e => e.kd.isRA).getD k false = e.kd.isRA := by rw [List.getD_eq_getElem?_getD, List.getElem?_map, hk]; rfl
  have e2 : (es.map fun e => e.kd.isWrite).getD u false = true := by rw [List.getD_eq_getElem?_getD, List.getElem?_map, hu]; show f.kd.isWrite = true; rw [hf]; rfl
  rcases h1 with h1 | h1
  · rw [e1] at h1
    cases hkd : e.kd <;> dsimp only <;> (rw [hkd] at h1; cases h1)
  · have h2 := h1 u (List.mem_range.2 (by rw [List.length_map]; exact hul))
    rw [e2] at h2
    simp only [Bool.not_true, Bool.false_or, Bool.or_eq_true, List.contains_iff_mem, Bool.and_eq_true, beq_iff_eq] at h2
    rcases h2 with h2 | ⟨rfl, rfl⟩
    · exact absurd h2 (not_or.2 hun)
    · rw [he] at hk; rw [hf0] at hu
      obtain rfl := Option.some.inj hk
      obtain rfl := Option.some.inj hu
      cases hkd : e0.kd with
      | read cs => dsimp only; intro c hc _; rw [hr cs hkd c hc]; exact hh
      | alloc cells => exact absurd hkd (ha cells)
      | _ => dsimp only
/-- copying rows of arrays -/
def cpyR (z : List Int) (l : List (List Int)) (n i : Nat) : List (List Int) := (List.range n).map fun j => if j < i then rw_ l j else z
theorem cpyR_length (z : List Int) (l : List (List Int)) (n i : Nat) : (cpyR z l n i).length = n := by simp [cpyR]
theorem cpyR_all {m : Nat} {z : List Int} {l : List (List Int)} {n i : Nat} (h : All m l) (hz : z.length = m) (hn : n ≤ l.length) : All m (cpyR z l n i) := by
  intro r hr
  obtain ⟨j, hj, rfl⟩ := List.mem_map.1 hr
  have := List.mem_range.1 hj
  split
  · exact rw_len h (by omega)
  · exact hz
theorem cpyR_zero (z : List Int) (l : List (List Int)) (n : Nat) : cpyR z l n 0 = List.replicate n z := by
  apply List.ext_getElem?
  intro j
  by_cases h : j < n <;> simp [cpyR, h, List.getElem?_replicate]
theorem cpyR_set (z : List Int) (l : List (List Int)) (n i : Nat) (h : i < n) : (cpyR z l n i).set i (rw_ l i) = cpyR z l n (i + 1) := by
  apply List.ext_getElem?
  intro j
  rw [List.getElem?_set]
  by_cases hj : i = j
  · subst hj; simp [cpyR, h]
  · rw [if_neg hj]
    by_cases h3 : j < n
    · have : (j < i) = (j < i + 1) := propext (by omega)
      simp [cpyR, h3, this]
    · simp [cpyR, h3]
theorem cpyR_full (z : List Int) (l : List (List Int)) (n i : Nat) (h : n ≤ i) (hm : l.length = n) : cpyR z l n i = l := by
  apply List.ext_getElem?
  intro j
  by_cases h3 : j < n
  · simp [cpyR, h3, (by omega : j < i), rw_, List.getD_eq_getElem?_getD, List.getElem?_eq_getElem (by omega : j < l.length)]
  · rw [List.getElem?_eq_none (by rw [cpyR_length]; omega), List.getElem?_eq_none (by omega)]
end Go.Proofs.Ytocaepkkaihiiaa.Am
