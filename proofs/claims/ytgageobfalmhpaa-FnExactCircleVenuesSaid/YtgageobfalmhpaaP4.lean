/-
  Tables marked with numbers that grow. Plain Lean, no program. No condition.
-/
import Derived.Test.YtgageobfalmhpaaW3
import Derived.Test.YtgageobfalmhpaaAm16
namespace Go.Proofs.Ytgageobfalmhpaa
open Go Go.RowKit Am
set_option linter.unusedVariables false
set_option linter.unusedSimpArgs false
def tot (T : Tab) : Nat := (T.map (·.2.2.length)).sum
theorem tot_app (S T : Tab) : tot (S ++ T) = tot S + tot T := by simp [tot]
def markT : Int → Tab → Tab
  | _, [] => []
  | k, x :: T => (x.1, x.2.1, mkl k x.2.2.length) :: markT (k + x.2.2.length) T
theorem markT_app : ∀ (S T : Tab) (k : Int), markT k (S ++ T) = markT k S ++ markT (k + tot S) T
  | [], T, k => by simp [markT, tot]
  | x :: S, T, k => by
    rw [List.cons_append, markT, markT, List.cons_append, markT_app S T]
    congr 3
    simp [tot]; omega
theorem markT_len : ∀ (T : Tab) (k : Int), (markT k T).length = T.length
  | [], _ => rfl
  | x :: T, k => by simp [markT, markT_len T]
theorem markT_ids : ∀ (T : Tab) (k : Int), (markT k T).ids = T.ids
  | [], _ => rfl
  | x :: T, k => by
    have := markT_ids T (k + x.2.2.length)
    unfold Tab.ids at *
    rw [markT, List.map_cons, List.map_cons, this]
theorem markT_cells : ∀ (T : Tab) (k : Int), (markT k T).cells = T.cells
  | [], _ => rfl
  | x :: T, k => by
    have := markT_cells T (k + x.2.2.length)
    unfold Tab.cells at *
    rw [markT, List.map_cons, List.map_cons, this]
    congr 1
    unfold hdr; rw [mkl_length]
theorem take_succ {T : Tab} {j : Nat} (h : j < T.length) : T.take (j + 1) = T.take j ++ [trow T j] := by
  rw [List.take_add_one, List.getElem?_eq_getElem h]
  unfold trow; rw [List.getD_eq_getElem?_getD, List.getElem?_eq_getElem h]; rfl
theorem tot_succ {T : Tab} {j : Nat} (h : j < T.length) : tot (T.take (j + 1)) = tot (T.take j) + (trow T j).2.2.length := by
  rw [take_succ h, tot_app]; simp [tot]
theorem tot_le (T : Tab) (j : Nat) : tot (T.take j) ≤ tot T := by
  have : tot T = tot (T.take j) + tot (T.drop j) := by rw [← tot_app, List.take_append_drop]
  omega
theorem tot_row {T : Tab} {j : Nat} (h : j < T.length) : tot (T.take j) + (trow T j).2.2.length ≤ tot T := by rw [← tot_succ h]; exact tot_le T _
theorem mark_step {T : Tab} {k : Int} {j : Nat} (h : j < T.length) (H : AHeap) :
    (setT H (markT k (T.take j))).set (trow T j).1 (AObj.row false (ints (mkl (k + ((tot (T.take j) : Nat) : Int)) (trow T j).2.2.length))) = setT H (markT k (T.take (j + 1))) := by
  rw [take_succ h, markT_app, setT_app]; rfl
theorem trow_take_ne {T : Tab} (hn : T.ids.Nodup) {j : Nat} (h : j < T.length) (k : Int) : ∀ x ∈ markT k (T.take j), x.1 ≠ (trow T j).1 := by
  intro x hx e
  have hm : x.1 ∈ (markT k (T.take j)).ids := List.mem_map.2 ⟨x, hx, rfl⟩
  rw [markT_ids] at hm
  have h1 : T.ids = Tab.ids (T.take j) ++ Tab.ids (T.drop j) := by unfold Tab.ids; rw [← List.map_append, List.take_append_drop]
  rw [h1, List.nodup_append] at hn
  have h2 : (trow T j).1 ∈ Tab.ids (T.drop j) := by
    refine List.mem_map.2 ⟨trow T j, ?_, rfl⟩
    rw [List.drop_eq_getElem_cons h]
    unfold trow; rw [List.getD_eq_getElem?_getD, List.getElem?_eq_getElem h]; exact List.mem_cons_self ..
  exact hn.2.2 _ hm _ h2 e
theorem mark_ne {T : Tab} {i j : Nat} {k : Int} (h : ∀ x ∈ T, x.1 ≠ i) : ∀ x ∈ markT k (T.take j), x.1 ≠ i := by
  intro x hx e
  have hm : x.1 ∈ (markT k (T.take j)).ids := List.mem_map.2 ⟨x, hx, rfl⟩
  rw [markT_ids] at hm
  obtain ⟨y, hy, e'⟩ := List.mem_map.1 hm
  exact h y (List.mem_of_mem_take hy) (e'.trans e)
theorem trow_markT {T : Tab} {k : Int} {j : Nat} (h : j < T.length) : trow (markT k T) j = ((trow T j).1, (trow T j).2.1, mkl (k + ((tot (T.take j) : Nat) : Int)) (trow T j).2.2.length) := by
  have e : T = T.take j ++ (trow T j :: T.drop (j + 1)) := by
    have h0 := (List.take_append_drop j T).symm
    rw [List.drop_eq_getElem_cons h] at h0
    have : trow T j = T[j] := by unfold trow; rw [List.getD_eq_getElem?_getD, List.getElem?_eq_getElem h]; rfl
    rw [this]; exact h0
  have h2 : (markT k T)[j]? = some ((trow T j).1, (trow T j).2.1, mkl (k + ((tot (T.take j) : Nat) : Int)) (trow T j).2.2.length) := by
    have h3 : markT k T = markT k (T.take j) ++ markT (k + tot (T.take j)) (trow T j :: T.drop (j + 1)) := by rw [← markT_app, ← e]
    rw [h3, List.getElem?_append_right (by rw [markT_len, List.length_take]; omega), markT_len, List.length_take, show j - min j T.length = 0 by omega]
    rfl
  show (markT k T).getD j _ = _
  rw [List.getD_eq_getElem?_getD, h2]; rfl
theorem mark_ne2 {T : Tab} {i : Nat} {k : Int} (h : ∀ x ∈ T, x.1 ≠ i) : ∀ x ∈ markT k T, x.1 ≠ i := by
  have := mark_ne (j := T.length) (k := k) h
  rwa [List.take_length] at this
theorem mark_R {b : Nat} {G : AHeap} {T : Tab} {k : Int} (h : TabW b G T) : TabR (setT G (markT k T)) (markT k T) := fun x hx =>
  ⟨false, setT_in _ _ (by rw [markT_ids]; exact h.1) (fun y hy => by
    have hm : y.1 ∈ (markT k T).ids := List.mem_map.2 ⟨y, hy, rfl⟩
    rw [markT_ids] at hm
    obtain ⟨z, hz, e⟩ := List.mem_map.1 hm
    have := h.r.lt hz
    have e' : z.1 = y.1 := e
    omega) x hx⟩
theorem canT_small {b n : Nat} {Y : List (Nat × List Int)} (h : ∀ y ∈ Y, y.2.length ≤ n) : ∀ x ∈ canT b Y, x.2.2.length ≤ n := by
  intro x hx
  obtain ⟨j, hj, e⟩ := List.getElem_of_mem hx
  have h1 := canT_get Y b j
  rw [List.getElem?_eq_getElem hj, e] at h1
  rw [canT_len] at hj
  rw [List.getElem?_eq_getElem hj] at h1
  obtain rfl := Option.some.inj h1
  exact h _ (List.getElem_mem hj)
theorem tot_bound {T : Tab} {n : Nat} (h : ∀ x ∈ T, x.2.2.length ≤ n) : tot T ≤ T.length * n := by
  induction T with
  | nil => simp [tot]
  | cons x T ih =>
    have h1 := h x (List.mem_cons_self ..)
    have h2 := ih (fun y hy => h y (List.mem_cons_of_mem _ hy))
    have e : tot (x :: T) = x.2.2.length + tot T := by simp [tot]
    rw [e, List.length_cons, Nat.succ_mul]; omega
/-- a table as it is read -/
def TabIs (H : AHeap) (p : Option Addr) (n : Nat) (T : Tab) : Prop := T.length = n ∧ (n = 0 ∨ ∃ i ro, p = some ⟨i, 0, none⟩ ∧ hget H i = .row ro T.cells) ∧ TabR H T
theorem TabIs.some {H : AHeap} {p : Option Addr} {n : Nat} {T : Tab} (h : TabIs H p n T) (hn : 0 < n) : ∃ i ro, p = Option.some ⟨i, 0, none⟩ ∧ hget H i = .row ro T.cells := h.2.1.resolve_left (by omega)
theorem TabIs.nil (H : AHeap) (p : Option Addr) : TabIs H p 0 [] := ⟨rfl, .inl rfl, TabR.nil H⟩
theorem TabIs.mk {H : AHeap} {i n : Nat} {ro : Bool} {T : Tab} (h : hget H i = .row ro T.cells) (hn : T.length = n) (hT : TabR H T) : TabIs H (Option.some ⟨i, 0, none⟩) n T := ⟨hn, .inr ⟨i, ro, rfl, h⟩, hT⟩
end Go.Proofs.Ytgageobfalmhpaa
