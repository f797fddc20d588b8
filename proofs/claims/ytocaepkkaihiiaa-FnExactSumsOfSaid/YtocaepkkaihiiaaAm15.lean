/-
  Rules in the shape in which a program prints them: append, slices written out. No condition.
-/
import Derived.Test.YtocaepkkaihiiaaAm14
namespace Go.Proofs.Ytocaepkkaihiiaa.Am
open Go Go.RowKit
set_option linter.unusedVariables false
set_option linter.unusedSimpArgs false


/-- A buffer that grows: the first n elements (m cells each) of its row; its room is full, or not known. -/
def Buf (b : Nat) (H : AHeap) (p : Option Addr) (n c m : Nat) (us : List Value) : Prop :=
  us.length = n * m ∧ ((p = none ∧ n = 0 ∧ c = 0) ∨ ∃ i, p = some ⟨i, 0, none⟩ ∧ b ≤ i ∧ hget H i = .row false us ∧ (c = capU + m ∨ (c = n ∧ c < capU)))
def kill (p : Option Addr) (H : AHeap) : AHeap := match p with | none => H | some a => H.set a.block .dead
theorem kill_length (p : Option Addr) (H : AHeap) : (kill p H).length = H.length := by cases p <;> simp [kill]
theorem kill_get {b : Nat} {H : AHeap} {p : Option Addr} {n c m : Nat} {us : List Value} (h : Buf b H p n c m us) {j : Nat} (hj : j < b) : hget (kill p H) j = hget H j := by
  rcases h with ⟨_, ⟨rfl, _⟩ | ⟨i, rfl, hi, _⟩⟩
  · rfl
  · exact hget_set_other _ (by show i ≠ j; omega)
section
variable {P : Program} {N : Nat} {t : Env} {H : AHeap} {d : Option Tmp} {ty : TypeId} {pos : String} {af : Array Edge} {g : Option (Nat × Bool)}
theorem OpOk.killed {o : Oper} {v : Value} {H' : AHeap} (i : Nat) (h : OpOk P N o t H v H') : OpOk P N o t H v (H'.set i .dead) := by
  intro W φ w a hs he
  refine (h W φ w a hs he).mono fun v' w' => ?_
  rintro ⟨φ', k1, k2, k3⟩
  have := kill_ok i k1
  exact ⟨φ', this.1, k2, k3.trans this.2⟩
theorem s_append {sT xT E m by_ n c k cx j i' b : Nat} {ro : Bool} {ti : TypeInfo} {s x : Operand} {p : Option Addr} {us vs : List Value} {z : Value} {H' : AHeap} (hT : P.underlying sT = some (.slice E)) (hX : P.underlying xT = some (.slice E))
    (hi : ∀ w, (typeInfo E).run P w = .ok ti w) (hm : ∀ w, (sizeOf E).run P w = .ok m w) (hz : ∀ w, (zeroValue E).run P w = .ok z w) (hb : ti.bytes = by_) (hzm : z.cells.size = m) (hmU : Nat.blt m 1000000 = true)
    (hs0 : aEv t s = some (.slice p n c)) (hx0 : aEv t x = some (.slice (some ⟨j, 0, none⟩) k cx)) (hB : Buf b H p n c m us) (hg : hget H j = .row ro vs) (hvl : vs.length = k * m) (hk : 0 < k) (hones : ∀ v ∈ vs, oneCell v = true) (hroom : roomy (n + k) by_)
    (hidx : H.length = i') (hH : kill p H ++ [.row false (us ++ vs)] = H') :
    OpOk P N ⟨d, .call { callee := .builtin .append, args := #[s, x], argTypes := #[sT, xT] }, ty, pos, af, g⟩ t H (.slice (some ⟨i', 0, none⟩) (n + k) (capU + m)) H' := by
  subst hidx hH
  have hx : SliceIs H m (.slice (some ⟨j, 0, none⟩) k cx) vs := .inl ⟨j, 0, k, cx, rfl, hvl, fun q u e => by rw [Nat.zero_add]; exact row_cell hg e⟩
  obtain ⟨hul, ⟨rfl, rfl, rfl⟩ | ⟨i, rfl, hbi, hgi, hc⟩⟩ := hB
  · obtain rfl : us = [] := List.eq_nil_of_length_eq_zero (by omega)
    exact m_append_new hs0 hx0 hT hX hi hb hm hz hzm (.inr ⟨rfl, rfl⟩) hx (by decide) (by omega) hroom
  · have hu : SliceIs H m (.slice (some ⟨i, 0, none⟩) n c) us := .inl ⟨i, 0, n, c, rfl, hul, fun q u e => by rw [Nat.zero_add]; exact row_cell hgi e⟩
    rcases hc with rfl | ⟨rfl, hc⟩
    · exact m_append_u hs0 hx0 hT hX hi hb hm hz hzm hgi hu hx hones hroom hmU
    · have := (m_append_new (N := N) (d := d) (ty := ty) (pos := pos) (af := af) (g := g) hs0 hx0 hT hX hi hb hm hz hzm hu hx hc (by omega) hroom).killed i
      have hlt := row_lt hgi
      rw [List.set_append_left _ _ hlt] at this
      exact this
/-- what append leaves -/
theorem Buf.next {b : Nat} {H : AHeap} {p : Option Addr} {n k c m : Nat} {us vs : List Value} (h : Buf b H p n c m us) (hb : b ≤ H.length) (hv : vs.length = k * m) :
    Buf b (kill p H ++ [.row false (us ++ vs)]) (some ⟨H.length, 0, none⟩) (n + k) (capU + m) m (us ++ vs) := by
  refine ⟨by rw [List.length_append, h.1, hv, Nat.add_mul], .inr ⟨_, rfl, hb, ?_, .inl rfl⟩⟩
  rw [← kill_length p H]; exact hget_last _ _
theorem append_get {b : Nat} {H : AHeap} {p : Option Addr} {n c m : Nat} {us : List Value} {o : AObj} (h : Buf b H p n c m us) {j : Nat} (hb : b ≤ H.length) (hj : j < b) : hget (kill p H ++ [o]) j = hget H j := by
  rw [hget_append_lt (by rw [kill_length]; omega)]; exact kill_get h hj

/-- a slice of ints written out -/
theorem s_buildInts {T E : TypeId} {len i : Nat} {ps : List (Nat × Operand)} {vs : List (Nat × Value)} {xs : List Int} {z : Value} {H' : AHeap} (hT : P.underlying T = some (.slice E)) (hm : ∀ w, (sizeOf E).run P w = .ok 1 w) (hz : ∀ w, (zeroValue E).run P w = .ok z w) (hzc : z.cells.toList = ints [0])
    (hp : ps.map (fun p => (p.1, aEv t p.2)) = vs.map (fun p => (p.1, some p.2))) (hlen : len ≤ 16777216) (hcs : partsOf 1 vs (ints (List.replicate len 0)) = some (ints xs)) (hl : xs.length = len) (hidx : H.length = i) (hH : H ++ [AObj.row false (ints xs)] = H') :
    OpOk P N ⟨d, .buildSlice T len ps.toArray, ty, pos, af, g⟩ t H (.slice (some ⟨i, 0, none⟩) len len) H' := by
  subst hidx hH
  refine m_buildSlice hp hT hm hz (by rw [hzc]; exact ints_flat) (by rw [← Array.length_toList, hzc]; rfl) Nat.one_pos (by omega) ?_ (by rw [ints_length]; omega)
  rw [hzc, make_cells, flatten_single]; exact hcs
theorem parts_row {m i : Nat} {r : List Int} {l : List (List Int)} {rest : List (Nat × Value)} (hl : All m l) (hr : r.length = m) (hi : i < l.length) :
    partsOf m ((i, .agg (ints r).toArray) :: rest) (ints l.flatten) = partsOf m rest (ints (l.set i r).flatten) := by
  have hb : i * m + m ≤ l.length * m := by rw [← Nat.succ_mul]; exact Nat.mul_le_mul_right _ hi
  rw [partsOf, if_pos ⟨by simp [Value.cells, ints_length, hr], by rw [ints_length, flat_len hl]; exact hb⟩]
  have : (Value.agg (ints r).toArray).cells.toList = ints r := rfl
  rw [this, flat_setMany hl hr hi]
/-- two arrays -/
theorem s_build2 {T E : TypeId} {m i : Nat} {x y : Operand} {r q : List Int} {z : Value} {zr : List Int} {H' : AHeap} (hT : P.underlying T = some (.slice E)) (hm : ∀ w, (sizeOf E).run P w = .ok m w) (hz : ∀ w, (zeroValue E).run P w = .ok z w) (hzc : z.cells.toList = ints zr) (hzr : zr.length = m)
    (hm0 : 0 < m) (hmb : m ≤ 1000) (hx : aEv t x = some (.agg (ints r).toArray)) (hy : aEv t y = some (.agg (ints q).toArray)) (hr : r.length = m) (hq : q.length = m) (hidx : H.length = i) (hH : H ++ [AObj.row false (ints [r, q].flatten)] = H') :
    OpOk P N ⟨d, .buildSlice T 2 [(0, x), (1, y)].toArray, ty, pos, af, g⟩ t H (.slice (some ⟨i, 0, none⟩) 2 2) H' := by
  subst hidx hH
  have hrep : All m (List.replicate 2 zr) := fun r h => by rw [List.eq_of_mem_replicate h]; exact hzr
  refine m_buildSlice (vs := [(0, .agg (ints r).toArray), (1, .agg (ints q).toArray)]) (by simp [hx, hy]) hT hm hz (by rw [hzc]; exact ints_flat) (by rw [← Array.length_toList, hzc, ints_length]; exact hzr) hm0 (by omega) ?_ ?_
  · rw [hzc, make_cells, parts_row hrep hr (by simp), parts_row (hrep.set hr 0) hq (by simp)]
    rfl
  · rw [ints_length, flat_len (m := m) (l := [r, q]) (fun x h => by simp at h; rcases h with rfl | rfl <;> assumption)]; rfl
end
theorem ints_app (a b : List Int) : ints a ++ ints b = ints (a ++ b) := by simp [ints]
theorem intsf_app (a b : List (List Int)) : ints a.flatten ++ ints b.flatten = ints (a ++ b).flatten := by simp [ints]
theorem all_nil {m : Nat} : All m [] := fun r h => by cases h
theorem all_two {m : Nat} {r q : List Int} (hr : r.length = m) (hq : q.length = m) : All m [r, q] := fun x h => by simp at h; rcases h with rfl | rfl <;> assumption
theorem all_app {m : Nat} {l k : List (List Int)} (h1 : All m l) (h2 : All m k) : All m (l ++ k) := fun r h => (List.mem_append.1 h).elim (h1 r) (h2 r)
/-! for memory that is known by facts alone -/
theorem Buf.more {b : Nat} {H l : AHeap} {p : Option Addr} {n c m : Nat} {us : List Value} (h : Buf b H p n c m us) : Buf b (H ++ l) p n c m us := by
  obtain ⟨h1, h2 | ⟨i, h3, h4, h5, h6⟩⟩ := h
  · exact ⟨h1, .inl h2⟩
  · exact ⟨h1, .inr ⟨i, h3, h4, by rw [hget_append_lt (row_lt h5)]; exact h5, h6⟩⟩
theorem Buf.same {b : Nat} {H H' : AHeap} {p : Option Addr} {n c m : Nat} {us : List Value} (h : Buf b H p n c m us) (k : ∀ a, p = some a → hget H' a.block = hget H a.block) : Buf b H' p n c m us := by
  obtain ⟨h1, h2 | ⟨i, h3, h4, h5, h6⟩⟩ := h
  · exact ⟨h1, .inl h2⟩
  · exact ⟨h1, .inr ⟨i, h3, h4, by rw [k _ h3]; exact h5, h6⟩⟩
theorem append_get2 {H : AHeap} {p : Option Addr} {o : AObj} {j : Nat} (hj : j < H.length) (hne : ∀ a, p = some a → a.block ≠ j) : hget (kill p H ++ [o]) j = hget H j := by
  rw [hget_append_lt (by rw [kill_length]; exact hj)]
  cases p with
  | none => rfl
  | some a => exact hget_set_other _ (hne a rfl)
theorem append_new {H : AHeap} {p : Option Addr} {o : AObj} : hget (kill p H ++ [o]) H.length = o := by
  rw [← kill_length p H]; exact hget_last _ _
theorem append_len {H : AHeap} {p : Option Addr} {o : AObj} : (kill p H ++ [o]).length = H.length + 1 := by rw [List.length_append, kill_length]; rfl
theorem Buf.below {b j : Nat} {H : AHeap} {p : Option Addr} {n c m : Nat} {us : List Value} (h : Buf b H p n c m us) (hj : j < b) : ∀ a, p = some a → a.block ≠ j := by
  intro a e
  obtain ⟨_, ⟨rfl, _⟩ | ⟨i, rfl, h4, _⟩⟩ := h
  · cases e
  · obtain rfl := Option.some.inj e; show i ≠ j; omega
theorem Buf.new {b : Nat} {H : AHeap} {i n c m : Nat} {us : List Value} (hb : b ≤ i) (hg : hget H i = .row false us) (hl : us.length = n * m) (hc : c = capU + m ∨ (c = n ∧ c < capU)) : Buf b H (some ⟨i, 0, none⟩) n c m us :=
  ⟨hl, .inr ⟨i, rfl, hb, hg, hc⟩⟩
theorem Buf.nil (b : Nat) (H : AHeap) (m : Nat) : Buf b H none 0 0 m [] := ⟨by simp, .inl ⟨rfl, rfl, rfl⟩⟩
theorem Buf.row {b : Nat} {H : AHeap} {i n c m : Nat} {us : List Value} (h : Buf b H (some ⟨i, 0, none⟩) n c m us) : hget H i = .row false us ∧ b ≤ i ∧ us.length = n * m := by
  obtain ⟨h1, ⟨h2, _⟩ | ⟨j, h3, h4, h5, h6⟩⟩ := h
  · cases h2
  · have : i = j := by injection h3 with h3; injection h3
    subst this; exact ⟨h5, h4, h1⟩
section
variable {P : Program} {N : Nat} {t : Env} {H : AHeap} {d : Option Tmp} {ty : TypeId} {pos : String} {af : Array Edge} {g : Option (Nat × Bool)}
/-- the same, in drawn order -/
theorem a_buildInts {T E : TypeId} {len i : Nat} {ps : List (Nat × Operand)} {vs : List (Nat × Value)} {xs : List Int} {z : Value} (hT : P.underlying T = some (.slice E)) (hm : ∀ w, (sizeOf E).run P w = .ok 1 w) (hz : ∀ w, (zeroValue E).run P w = .ok z w) (hzc : z.cells.toList = ints [0])
    (hp : ps.map (fun p => (p.1, aEv t p.2)) = vs.map (fun p => (p.1, some p.2))) (hlen : len ≤ 16777216) (hcs : partsOf 1 vs (ints (List.replicate len 0)) = some (ints xs)) (hl : xs.length = len) :
    AOk P N ⟨d, .buildSlice T len ps.toArray, ty, pos, af, g⟩ t (ints xs) i (.slice (some ⟨i, 0, none⟩) len len) := by
  refine a_buildSlice hp hT hm hz (by rw [hzc]; exact ints_flat) (by rw [← Array.length_toList, hzc]; rfl) Nat.one_pos (by omega) ?_ (by rw [ints_length]; omega)
  rw [hzc, make_cells, flatten_single]; exact hcs
theorem a_build2 {T E : TypeId} {m i : Nat} {x y : Operand} {r q : List Int} {z : Value} {zr : List Int} (hT : P.underlying T = some (.slice E)) (hm : ∀ w, (sizeOf E).run P w = .ok m w) (hz : ∀ w, (zeroValue E).run P w = .ok z w) (hzc : z.cells.toList = ints zr) (hzr : zr.length = m)
    (hm0 : 0 < m) (hmb : m ≤ 1000) (hx : aEv t x = some (.agg (ints r).toArray)) (hy : aEv t y = some (.agg (ints q).toArray)) (hr : r.length = m) (hq : q.length = m) :
    AOk P N ⟨d, .buildSlice T 2 [(0, x), (1, y)].toArray, ty, pos, af, g⟩ t (ints [r, q].flatten) i (.slice (some ⟨i, 0, none⟩) 2 2) := by
  have hrep : All m (List.replicate 2 zr) := fun r h => by rw [List.eq_of_mem_replicate h]; exact hzr
  refine a_buildSlice (vs := [(0, .agg (ints r).toArray), (1, .agg (ints q).toArray)]) (by simp [hx, hy]) hT hm hz (by rw [hzc]; exact ints_flat) (by rw [← Array.length_toList, hzc, ints_length]; exact hzr) hm0 (by omega) ?_ ?_
  · rw [hzc, make_cells, parts_row hrep hr (by simp), parts_row (hrep.set hr 0) hq (by simp)]
    rfl
  · rw [ints_length, flat_len (m := m) (l := [r, q]) (fun x h => by simp at h; rcases h with rfl | rfl <;> assumption)]; rfl
theorem s_indexP {T : TypeId} {x y : Operand} {E : TypeId} {m q : Nat} {k : IntKind} {n : Int} {i o len c : Nat} {p : Option Addr} (hT : P.underlying T = some (.slice E)) (hm : ∀ w, (sizeOf E).run P w = .ok m w) (hx : aEv t x = some (.slice p len c)) (hp : p = some ⟨i, o, none⟩) (hy : aEv t y = some (.int k n))
    (h0 : 0 ≤ n) (h1 : n < len) (hq : o + n.toNat * m = q) : PureOk P N ⟨d, .indexAddr T x y, ty, pos, af, g⟩ t (.pointer (some ⟨i, q, none⟩)) := by subst hp; exact s_indexSl hT hm hx hy h0 h1 hq
end
end Go.Proofs.Ytocaepkkaihiiaa.Am
