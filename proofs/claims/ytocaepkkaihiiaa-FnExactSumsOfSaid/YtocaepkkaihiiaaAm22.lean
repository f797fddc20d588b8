/-
  Orders that are open: the check on the edges by bit masks, once for a region. No condition.
-/
import Derived.Test.YtocaepkkaihiiaaAm21
namespace Go.Proofs.Ytocaepkkaihiiaa.Am
open Go Go.RowKit
set_option linter.unusedVariables false
set_option linter.unusedSimpArgs false

def Msk (m : Nat) (l : List Nat) : Prop := ∀ j, m.testBit j = decide (j ∈ l)
def befM (ops : List Oper) : List Nat :=
  ops.foldl (fun acc o => acc ++ [o.after.toList.foldl (fun s e => if Region.binds .any e then s ||| ((1 <<< e.on) ||| acc.getD e.on 0) else s) 0]) []
theorem Msk.zero : Msk 0 [] := fun j => by simp
theorem Msk.step {s a : Nat} {l k : List Nat} (h : Msk s l) (g : Msk a k) (i : Nat) : Msk (s ||| ((1 <<< i) ||| a)) ((i :: k) ++ l) := fun j => by
  rw [Nat.testBit_or, Nat.testBit_or, h j, g j, Nat.shiftLeft_eq, Nat.one_mul, Nat.testBit_two_pow]
  by_cases h1 : i = j <;> by_cases h2 : j ∈ k <;> by_cases h3 : j ∈ l <;> simp [h1, h2, h3, eq_comm]
  all_goals (intro h4; exact absurd h4.symm h1)
theorem befM_ok (ops : List Oper) : (befM ops).length = (befAll ops).length ∧ ∀ k, Msk ((befM ops).getD k 0) ((befAll ops).getD k []) := by
  have key : ∀ (l : List Oper) (a : List Nat) (b : List (List Nat)), a.length = b.length → (∀ k, Msk (a.getD k 0) (b.getD k [])) →
      (l.foldl (fun acc o => acc ++ [o.after.toList.foldl (fun s e => if Region.binds .any e then s ||| ((1 <<< e.on) ||| acc.getD e.on 0) else s) 0]) a).length =
      (l.foldl (fun acc o => acc ++ [o.after.toList.foldl (fun s e => if Region.binds .any e then (e.on :: acc.getD e.on []) ++ s else s) []]) b).length ∧
      ∀ k, Msk ((l.foldl (fun acc o => acc ++ [o.after.toList.foldl (fun s e => if Region.binds .any e then s ||| ((1 <<< e.on) ||| acc.getD e.on 0) else s) 0]) a).getD k 0)
        ((l.foldl (fun acc o => acc ++ [o.after.toList.foldl (fun s e => if Region.binds .any e then (e.on :: acc.getD e.on []) ++ s else s) []]) b).getD k []) := by
    intro l
    induction l with
    | nil => intro a b h1 h2; exact ⟨h1, h2⟩
    | cons o l ih =>
      intro a b h1 h2
      have hf : ∀ (es : List Edge) (s : Nat) (t : List Nat), Msk s t → Msk (es.foldl (fun s e => if Region.binds .any e then s ||| ((1 <<< e.on) ||| a.getD e.on 0) else s) s) (es.foldl (fun s e => if Region.binds .any e then (e.on :: b.getD e.on []) ++ s else s) t) := by
        intro es
        induction es with
        | nil => intro s t h; exact h
        | cons e es ihe =>
          intro s t h
          rw [List.foldl_cons, List.foldl_cons]
          refine ihe _ _ ?_
          split
          · exact h.step (h2 e.on) e.on
          · exact h
      rw [List.foldl_cons, List.foldl_cons]
      refine ih _ _ (by simp [h1]) fun k => ?_
      rcases Nat.lt_trichotomy k a.length with hk | hk | hk
      · have e1 : ∀ x : Nat, (a ++ [x]).getD k 0 = a.getD k 0 := fun x => by simp [List.getD_eq_getElem?_getD, List.getElem?_append_left hk]
        have e2 : ∀ x : List Nat, (b ++ [x]).getD k [] = b.getD k [] := fun x => by simp [List.getD_eq_getElem?_getD, List.getElem?_append_left (by omega : k < b.length)]
        rw [e1, e2]; exact h2 k
      · subst hk
        have e1 : ∀ x : Nat, (a ++ [x]).getD a.length 0 = x := fun x => by simp [List.getD_eq_getElem?_getD]
        have e2 : ∀ x : List Nat, (b ++ [x]).getD a.length [] = x := fun x => by rw [h1]; simp [List.getD_eq_getElem?_getD]
        rw [e1, e2]; exact hf _ _ _ .zero
      · have e1 : ∀ x : Nat, (a ++ [x]).getD k 0 = 0 := fun x => by rw [List.getD_eq_getElem?_getD, List.getElem?_eq_none (by simp; omega)]; rfl
        have e2 : ∀ x : List Nat, (b ++ [x]).getD k [] = [] := fun x => by rw [List.getD_eq_getElem?_getD, List.getElem?_eq_none (by simp; omega)]; rfl
        rw [e1, e2]; exact .zero
  exact key ops [] [] rfl (fun k => by simpa using Msk.zero)
theorem bef_bit (ops : List Oper) (k j : Nat) : ((befAll ops).getD k []).contains j = ((befM ops).getD k 0).testBit j := by
  rw [(befM_ok ops).2 k j]
  by_cases h : j ∈ (befAll ops).getD k []
  · rw [decide_eq_true h, List.contains_iff_mem.2 h]
  · rw [decide_eq_false h]
    cases hc : ((befAll ops).getD k []).contains j with
    | false => rfl
    | true => exact absurd (List.contains_iff_mem.1 hc) h

def staticM (ops : List Oper) (opsA : Array Oper) (wr : List Bool) : Bool :=
  let bef := befM ops
  (List.range ops.length).all fun k =>
    let ok := ops.getD k default
    let bk := bef.getD k 0
    (ok.after.toList.all fun e => !Region.binds .any e || Nat.blt e.on k) &&
    (List.range k).all fun j => bk.testBit j || ((ops.getD j default).apart opsA ok && !(wr.getD j false && wr.getD k false))
theorem staticM_eq (ops : List Oper) (opsA : Array Oper) (wr : List Bool) : staticOk ops opsA wr = staticM ops opsA wr := by
  unfold staticOk staticM
  simp only [bef_bit]
def leAll : List Bool → List Bool → Bool
  | [], _ => true
  | a :: l, [] => !a && leAll l []
  | a :: l, b :: k => (!a || b) && leAll l k
theorem leAll_ok : ∀ {l k : List Bool}, leAll l k = true → ∀ j, l.getD j false = true → k.getD j false = true
  | [], k, _, j, h => by simp at h
  | a :: l, [], h, j, hj => by
    simp only [leAll, Bool.and_eq_true] at h
    cases j with
    | zero => simp at hj; rw [hj] at h; simp at h
    | succ j => simp at hj; have := leAll_ok h.2 j (by simpa using hj); simp at this
  | a :: l, b :: k, h, j, hj => by
    simp only [leAll, Bool.and_eq_true] at h
    cases j with
    | zero => simp at hj ⊢; rw [hj] at h; simpa using h.1
    | succ j => simp at hj ⊢; simpa using leAll_ok h.2 j (by simpa using hj)
theorem static_mono {ops : List Oper} {opsA : Array Oper} {wr wr' : List Bool} (h : staticOk ops opsA wr' = true) (hl : leAll wr wr' = true) : staticOk ops opsA wr = true := by
  unfold staticOk at *
  rw [List.all_eq_true] at *
  intro k hk
  have := h k hk
  simp only [Bool.and_eq_true, List.all_eq_true, Bool.or_eq_true] at this ⊢
  refine ⟨this.1, fun j hj => ?_⟩
  rcases this.2 j hj with h1 | h1
  · exact .inl h1
  · refine .inr ⟨h1.1, ?_⟩
    have h2 := h1.2
    cases ha : wr.getD j false <;> cases hb : wr.getD k false <;> try rfl
    rw [leAll_ok hl j ha, leAll_ok hl k hb] at h2; exact h2
section dx
variable {P : Program} {N : Nat} {l₀ : List Oper} {t₀ : Env} {H₀ : AHeap} {Q : Exit → Env → AHeap → Prop} {l : List Oper} {t : Env} {H : AHeap} {acc : List Ev}
theorem DX.startS {id : Nat} (wr : List Bool) (hm : P.follows .mixedOrders = true) (st : staticM l l.toArray wr = true) (h : staticM l l.toArray wr = true → DX P N l t H Q l t H []) : AX P N (.region id l.toArray true) t H Q := DX.start hm (h st)
theorem DX.nilS {wr : List Bool} (st : staticM l₀ l₀.toArray wr = true) (hl : leAll (acc.map (·.kd.isWrite)) wr = true) (dyn : dynOk l₀ acc) (h : Q .normal t H) : DX P N l₀ t₀ H₀ Q [] t H acc :=
  DX.nil (static_mono (by rw [staticM_eq]; exact st) hl) dyn h
end dx
def ordPsM (ops : List Oper) (wr ra : List Bool) (ps : List (Nat × Nat)) : Bool :=
  let bef := befM ops
  (List.range ra.length).all fun k => !(ra.getD k false) || (List.range wr.length).all fun u => !(wr.getD u false) || (bef.getD u 0).testBit k || (bef.getD k 0).testBit u || ps.any (fun p => p.1 == k && p.2 == u)
theorem ordPsM_eq (ops : List Oper) (wr ra : List Bool) (ps : List (Nat × Nat)) : ordPs ops wr ra ps = ordPsM ops wr ra ps := by
  unfold ordPs ordPsM
  simp only [bef_bit]
theorem dyn_pairsM {ops : List Oper} {es : List Ev} (ps : List (Nat × Nat)) (h : ordPsM ops (es.map fun e => e.kd.isWrite) (es.map fun e => e.kd.isRA) ps = true) (hp : pairsAll es ps) : dynOk ops es :=
  dyn_pairs ps (by rw [ordPsM_eq]; exact h) hp
end Go.Proofs.Ytocaepkkaihiiaa.Am
