/-
  Tables: a slice of slices of ints, by the list of its rows (number, room, ints). No condition.
-/
import Derived.Test.YtocaepkkaihiiaaAm15
namespace Go.Proofs.Ytocaepkkaihiiaa.Am
open Go Go.RowKit
set_option linter.unusedVariables false
set_option linter.unusedSimpArgs false

abbrev Tab := List (Nat × Nat × List Int)
def Tab.cells (T : Tab) : List Value := T.map hdr
def Tab.ids (T : Tab) : List Nat := T.map (·.1)
def Tab.rows (T : Tab) : List (List Int) := T.map (·.2.2)
def Tab.caps (T : Tab) : List (Nat × List Int) := T.map (·.2)
/-- its rows lie in memory -/
def TabR (H : AHeap) (T : Tab) : Prop := ∀ x ∈ T, ∃ ro, hget H x.1 = .row ro (ints x.2.2)
/-- .. are one's own, each by itself -/
def TabW (b : Nat) (H : AHeap) (T : Tab) : Prop := T.ids.Nodup ∧ ∀ x ∈ T, b ≤ x.1 ∧ hget H x.1 = .row false (ints x.2.2)
theorem TabW.r {b : Nat} {H : AHeap} {T : Tab} (h : TabW b H T) : TabR H T := fun x hx => ⟨false, (h.2 x hx).2⟩
theorem TabR.more {H l : AHeap} {T : Tab} (h : TabR H T) : TabR (H ++ l) T := fun x hx => by
  obtain ⟨ro, e⟩ := h x hx; exact ⟨ro, by rw [hget_append_lt (row_lt e)]; exact e⟩
theorem TabW.more {b : Nat} {H l : AHeap} {T : Tab} (h : TabW b H T) : TabW b (H ++ l) T := ⟨h.1, fun x hx => ⟨(h.2 x hx).1, by rw [hget_append_lt (row_lt (h.2 x hx).2)]; exact (h.2 x hx).2⟩⟩
theorem TabW.same {b : Nat} {H H' : AHeap} {T : Tab} (h : TabW b H T) (k : ∀ x ∈ T, hget H' x.1 = hget H x.1) : TabW b H' T := ⟨h.1, fun x hx => ⟨(h.2 x hx).1, by rw [k x hx]; exact (h.2 x hx).2⟩⟩
theorem TabR.same {H H' : AHeap} {T : Tab} (h : TabR H T) (k : ∀ x ∈ T, hget H' x.1 = hget H x.1) : TabR H' T := fun x hx => by
  obtain ⟨ro, e⟩ := h x hx; exact ⟨ro, by rw [k x hx]; exact e⟩
theorem TabW.nil (b : Nat) (H : AHeap) : TabW b H [] := ⟨List.nodup_nil, fun x h => by cases h⟩
theorem TabR.nil (H : AHeap) : TabR H [] := fun x h => by cases h
theorem TabR.lt {H : AHeap} {T : Tab} (h : TabR H T) {x : Nat × Nat × List Int} (hx : x ∈ T) : x.1 < H.length := by obtain ⟨ro, e⟩ := h x hx; exact row_lt e
theorem TabW.add {b : Nat} {H : AHeap} {T : Tab} {i c : Nat} {xs : List Int} (h : TabW b H T) (hb : b ≤ i) (hi : hget H i = .row false (ints xs)) (hn : ∀ x ∈ T, x.1 ≠ i) : TabW b H (T ++ [(i, c, xs)]) := by
  refine ⟨?_, fun x hx => ?_⟩
  · unfold Tab.ids
    rw [List.map_append, List.nodup_append]
    refine ⟨h.1, by simp, fun a ha b' hb' => ?_⟩
    obtain ⟨x, hx, rfl⟩ := List.mem_map.1 ha
    simp at hb'; subst hb'
    exact hn x hx
  · rcases List.mem_append.1 hx with hx | hx
    · exact h.2 x hx
    · simp at hx; subst hx; exact ⟨hb, hi⟩
theorem Tab.cells_app (S T : Tab) : Tab.cells (S ++ T) = S.cells ++ T.cells := List.map_append
theorem Tab.cells_len (T : Tab) : T.cells.length = T.length := List.length_map _
def trow (T : Tab) (j : Nat) : Nat × Nat × List Int := T.getD j (0, 0, [])
theorem trow_mem {T : Tab} {j : Nat} (h : j < T.length) : trow T j ∈ T := by
  unfold trow; rw [List.getD_eq_getElem?_getD, List.getElem?_eq_getElem h]; exact List.getElem_mem h
theorem Tab.cell {T : Tab} {j : Nat} (h : j < T.length) : T.cells[j]? = some (.slice (some ⟨(trow T j).1, 0, none⟩) (trow T j).2.2.length (trow T j).2.1) := by
  unfold Tab.cells trow; rw [List.getElem?_map, List.getD_eq_getElem?_getD, List.getElem?_eq_getElem h]; rfl
theorem Tab.rows_rw {T : Tab} {j : Nat} (h : j < T.length) : rw_ T.rows j = (trow T j).2.2 := by
  unfold Tab.rows rw_ trow; rw [List.getD_eq_getElem?_getD, List.getD_eq_getElem?_getD, List.getElem?_map, List.getElem?_eq_getElem h]; rfl
theorem Tab.rows_len (T : Tab) : T.rows.length = T.length := List.length_map _

/-- The table handed out: rows one behind the other. -/
def canT : Nat → List (Nat × List Int) → Tab
  | _, [] => []
  | b, y :: ys => (b, y) :: canT (b + 1) ys
theorem canT_len : ∀ (Y : List (Nat × List Int)) (b : Nat), (canT b Y).length = Y.length
  | [], _ => rfl
  | y :: ys, b => by simp [canT, canT_len ys (b + 1)]
theorem canT_rows : ∀ (Y : List (Nat × List Int)) (b : Nat), (canT b Y).rows = Y.map (·.2)
  | [], _ => rfl
  | y :: ys, b => by unfold canT Tab.rows; rw [List.map_cons, List.map_cons]; congr 1; exact canT_rows ys (b + 1)
theorem canT_get : ∀ (Y : List (Nat × List Int)) (b j : Nat), (canT b Y)[j]? = (Y[j]?).map fun y => (b + j, y)
  | [], b, j => by simp [canT]
  | y :: ys, b, 0 => by simp [canT]
  | y :: ys, b, j + 1 => by
    unfold canT
    rw [List.getElem?_cons_succ, List.getElem?_cons_succ, canT_get ys (b + 1) j]
    congr 1; funext y; congr 1; omega
theorem canT_ids {Y : List (Nat × List Int)} {b : Nat} : ∀ x ∈ canT b Y, b ≤ x.1 ∧ x.1 < b + Y.length := by
  intro x hx
  obtain ⟨j, hj, e⟩ := List.getElem_of_mem hx
  have h := canT_get Y b j
  rw [List.getElem?_eq_getElem hj, e] at h
  rw [canT_len] at hj
  rw [List.getElem?_eq_getElem hj] at h
  obtain rfl := Option.some.inj h
  exact ⟨Nat.le_add_right _ _, by show b + j < _; omega⟩
theorem canT_nodup : ∀ (Y : List (Nat × List Int)) (b : Nat), (canT b Y).ids.Nodup
  | [], _ => List.nodup_nil
  | y :: ys, b => by
    unfold canT Tab.ids
    rw [List.map_cons, List.nodup_cons]
    refine ⟨fun h => ?_, canT_nodup ys (b + 1)⟩
    obtain ⟨x, hx, e⟩ := List.mem_map.1 h
    have := (canT_ids x hx).1
    have e' : x.1 = b := e
    omega
def placed (b : Nat) (Y : List (Nat × List Int)) : AHeap := AObj.row false (canT (b + 1) Y).cells :: Y.map fun y => AObj.row false (ints y.2)
theorem placed_len (b : Nat) (Y : List (Nat × List Int)) : (placed b Y).length = Y.length + 1 := by simp [placed]
theorem placed_get (H : AHeap) (Y : List (Nat × List Int)) : hget (H ++ placed H.length Y) H.length = .row false (canT (H.length + 1) Y).cells := by
  rw [hget_append_ge (Nat.le_refl _), Nat.sub_self]; rfl
theorem placed_row {H : AHeap} {Y : List (Nat × List Int)} {j : Nat} {y : Nat × List Int} (h : Y[j]? = some y) : hget (H ++ placed H.length Y) (H.length + 1 + j) = .row false (ints y.2) := by
  rw [hget_append_ge (by omega), show H.length + 1 + j - H.length = j + 1 by omega]
  unfold placed hget
  rw [List.getD_cons_succ, List.getD_eq_getElem?_getD, List.getElem?_map, h]; rfl
theorem placed_tab (H : AHeap) (Y : List (Nat × List Int)) : TabW (H.length + 1) (H ++ placed H.length Y) (canT (H.length + 1) Y) := by
  refine ⟨canT_nodup _ _, fun x hx => ⟨(canT_ids x hx).1, ?_⟩⟩
  obtain ⟨j, hj, e⟩ := List.getElem_of_mem hx
  have h := canT_get Y (H.length + 1) j
  rw [List.getElem?_eq_getElem hj, e] at h
  rw [canT_len] at hj
  rw [List.getElem?_eq_getElem hj] at h
  obtain rfl := Option.some.inj h
  exact placed_row (List.getElem?_eq_getElem hj)

def σT (n o : Nat) (T : Tab) (i : Nat) : Option Nat := if i < n then some i else if i = n then some o else (T[i - (n + 1)]?).map (·.1)
/-- a table that was made is handed out -/
theorem Fin.tab {H G : AHeap} {v v₀ : Value} {o : Nat} {T : Tab} {Y : List (Nat × List Int)} (hold : ∀ i, i < H.length → hget G i = hget H i) (ho : H.length ≤ o) (hg : hget G o = .row false T.cells) (hT : TabW H.length G T)
    (hno : ∀ x ∈ T, x.1 ≠ o) (hY : T.caps = Y) (hv : Ren (σT H.length o T) v₀ v) : Fin H v G v₀ (H ++ placed H.length Y) := by
  have hlen : T.length = Y.length := by rw [← hY]; simp [Tab.caps]
  have new : ∀ i k, σT H.length o T i = some k → (i < H.length ∧ k = i) ∨ (i = H.length ∧ k = o) ∨ ∃ j x, i = H.length + 1 + j ∧ T[j]? = some x ∧ k = x.1 := by
    intro i k h
    unfold σT at h
    split at h
    · exact .inl ⟨by assumption, (Option.some.inj h).symm⟩
    · split at h
      · exact .inr (.inl ⟨by assumption, (Option.some.inj h).symm⟩)
      · obtain ⟨x, hx, e⟩ := Option.map_eq_some_iff.1 h
        exact .inr (.inr ⟨i - (H.length + 1), x, by omega, hx, e.symm⟩)
  have inj : ∀ (j j' : Nat) (x x' : Nat × Nat × List Int), T[j]? = some x → T[j']? = some x' → x.1 = x'.1 → j = j' := by
    intro j j' x x' h1 h2 e
    have hn := hT.1
    have e1 : T.ids[j]? = some x.1 := by unfold Tab.ids; rw [List.getElem?_map, h1]; rfl
    have e2 : T.ids[j']? = some x.1 := by unfold Tab.ids; rw [List.getElem?_map, h2, e]; rfl
    have hj : j < T.ids.length := (List.getElem?_eq_some_iff.1 e1).1
    exact (List.getElem?_inj hj hn).1 (e1.trans e2.symm)
  refine Fin.ren (σT H.length o T) (by simp) (fun i k h => ?_) (fun i hi => if_pos hi) (fun i i' k h1 h2 => ?_) (fun i k h => ?_) hv
  · rw [List.length_append, placed_len]
    rcases new i k h with ⟨h, _⟩ | ⟨h, _⟩ | ⟨j, x, h, hx, _⟩
    · omega
    · omega
    · have := (List.getElem?_eq_some_iff.1 hx).1; omega
  · rcases new i k h1 with ⟨a1, b1⟩ | ⟨a1, b1⟩ | ⟨j, x, a1, hx, b1⟩ <;> rcases new i' k h2 with ⟨a2, b2⟩ | ⟨a2, b2⟩ | ⟨j', x', a2, hx', b2⟩
    · omega
    · omega
    · have := (hT.2 x' (List.mem_of_getElem? hx')).1; omega
    · omega
    · omega
    · exact absurd (b2.symm.trans b1) (hno x' (List.mem_of_getElem? hx'))
    · have := (hT.2 x (List.mem_of_getElem? hx)).1; omega
    · exact absurd (b1.symm.trans b2) (hno x (List.mem_of_getElem? hx))
    · have := inj j j' x x' hx hx' (b1.symm.trans b2); omega
  · rcases new i k h with ⟨a1, rfl⟩ | ⟨rfl, rfl⟩ | ⟨j, x, rfl, hx, rfl⟩
    · rw [hget_append_lt a1, hold _ a1]; exact .old a1
    · rw [placed_get, hg]
      refine .row _ _ (by rw [Tab.cells_len, Tab.cells_len, canT_len]; exact hlen.symm) fun j c' c e e' => ?_
      unfold Tab.cells at e e'
      rw [List.getElem?_map] at e e'
      obtain ⟨y', hy', rfl⟩ := Option.map_eq_some_iff.1 e
      obtain ⟨y, hy, rfl⟩ := Option.map_eq_some_iff.1 e'
      rw [canT_get] at hy'
      obtain ⟨z, hz, rfl⟩ := Option.map_eq_some_iff.1 hy'
      rw [← hY] at hz
      unfold Tab.caps at hz
      rw [List.getElem?_map, hy] at hz
      obtain rfl := Option.some.inj hz
      refine .slice _ _ _ _ _ ?_
      unfold σT
      rw [if_neg (by show ¬ H.length + 1 + j < _; omega), if_neg (by show ¬ H.length + 1 + j = _; omega)]
      show (T[H.length + 1 + j - (H.length + 1)]?).map _ = _
      rw [show H.length + 1 + j - (H.length + 1) = j by omega, hy]; rfl
    · have hy : Y[j]? = some x.2 := by rw [← hY]; unfold Tab.caps; rw [List.getElem?_map, hx]; rfl
      rw [placed_row hy, (hT.2 x (List.mem_of_getElem? hx)).2]
      exact .row _ _ rfl fun q c' c e e' => by rw [e] at e'; obtain rfl := Option.some.inj e'; exact .flat _ (flat0_ok (ints_flat _ (List.mem_of_getElem? e)))
theorem ren_tab {n o m c : Nat} {T : Tab} : Ren (σT n o T) (.slice (some ⟨n, 0, none⟩) m c) (.slice (some ⟨o, 0, none⟩) m c) := .slice _ _ _ _ _ (by unfold σT; rw [if_neg (Nat.lt_irrefl _), if_pos rfl])

/-- rows written over -/
def setT (G : AHeap) (T : Tab) : AHeap := T.foldl (fun G x => G.set x.1 (.row false (ints x.2.2))) G
theorem setT_len : ∀ (T : Tab) (G : AHeap), (setT G T).length = G.length
  | [], _ => rfl
  | x :: T, G => by show (setT (G.set x.1 _) T).length = _; rw [setT_len T, List.length_set]
theorem setT_out : ∀ (T : Tab) (G : AHeap) (i : Nat), (∀ x ∈ T, x.1 ≠ i) → hget (setT G T) i = hget G i
  | [], _, _, _ => rfl
  | x :: T, G, i, h => by
    show hget (setT (G.set x.1 _) T) i = _
    rw [setT_out T _ i (fun y hy => h y (List.mem_cons_of_mem _ hy)), hget_set_other _ (h x (List.mem_cons_self ..))]
theorem setT_in : ∀ (T : Tab) (G : AHeap), T.ids.Nodup → (∀ x ∈ T, x.1 < G.length) → ∀ x ∈ T, hget (setT G T) x.1 = .row false (ints x.2.2)
  | [], _, _, _, x, hx => by cases hx
  | y :: T, G, hn, hl, x, hx => by
    show hget (setT (G.set y.1 _) T) x.1 = _
    unfold Tab.ids at hn
    rw [List.map_cons, List.nodup_cons] at hn
    rcases List.mem_cons.1 hx with rfl | hx
    · rw [setT_out T _ x.1 (fun z hz e => hn.1 (List.mem_map.2 ⟨z, hz, e⟩)), hget_set_same _ (hl x (List.mem_cons_self ..))]
    · exact setT_in T _ hn.2 (fun z hz => by rw [List.length_set]; exact hl z (List.mem_cons_of_mem _ hz)) x hx
theorem setT_app (S T : Tab) (G : AHeap) : setT G (S ++ T) = setT (setT G S) T := List.foldl_append
theorem tab_one {T : Tab} : ∀ v ∈ T.cells, oneCell v = true := by
  intro v h
  obtain ⟨x, _, rfl⟩ := List.mem_map.1 h
  rfl
theorem TabW.appended {b : Nat} {G l : AHeap} {p : Option Addr} {o : AObj} {T : Tab} (h : TabW b G T) (hp : ∀ a, p = some a → ∀ x ∈ T, x.1 ≠ a.block) : TabW b (kill p (G ++ l) ++ [o]) T :=
  h.same fun x hx => by
    have hlt := h.r.lt hx
    rw [append_get2 (by rw [List.length_append]; omega) (fun a e => fun e' => hp a e x hx e'.symm), hget_append_lt hlt]
theorem TabW.low {b b' : Nat} {H : AHeap} {T : Tab} (h : TabW b H T) (hb : b' ≤ b) : TabW b' H T := ⟨h.1, fun x hx => ⟨Nat.le_trans hb (h.2 x hx).1, (h.2 x hx).2⟩⟩
section
variable {P : Program} {N : Nat} {t : Env} {H : AHeap} {d : Option Tmp} {ty : TypeId} {pos : String} {af : Array Edge} {g : Option (Nat × Bool)}
/-- a slice of slices written out -/
theorem s_buildTab {T E : TypeId} {len i : Nat} {ps : List (Nat × Operand)} {vs : List (Nat × Value)} {X : Tab} {z : Value} {H' : AHeap} (hT : P.underlying T = some (.slice E)) (hm : ∀ w, (sizeOf E).run P w = .ok 1 w) (hz : ∀ w, (zeroValue E).run P w = .ok z w) (hzc : z = .slice none 0 0)
    (hp : ps.map (fun p => (p.1, aEv t p.2)) = vs.map (fun p => (p.1, some p.2))) (hlen : len ≤ 16777216) (hcs : partsOf 1 vs ((List.replicate len [.slice none 0 0]).flatten) = some X.cells) (hl : X.length = len) (hidx : H.length = i) (hH : H ++ [AObj.row false X.cells] = H') :
    OpOk P N ⟨d, .buildSlice T len ps.toArray, ty, pos, af, g⟩ t H (.slice (some ⟨i, 0, none⟩) len len) H' := by
  subst hidx hH hzc
  exact m_buildSlice hp hT hm hz (by intro c hc; simp [Value.cells] at hc; subst hc; rfl) rfl Nat.one_pos (by omega) hcs (by rw [Tab.cells_len]; omega)
end
end Go.Proofs.Ytocaepkkaihiiaa.Am
