
/-
  The abstract machine, texts joined: Am21, Am22, Am23, Am24, Am25, Am26, Am27, Am28, Am29, Am30. No condition.
-/
import Derived.Test.YtdafmafigcljkaaK4
import Derived.Laws.AppendOwn
import Derived.Sort.Grow
/-
  More rules in the shape in which the second program prints them: nil, slices of slices made and written. No condition.
-/
namespace Go.Proofs.Ytdafmafigcljkaa.Am
open Go Go.RowKit
set_option linter.unusedVariables false
set_option linter.unusedSimpArgs false

section rules
variable {P : Program} {N : Nat} {t : Env} {H : AHeap} {d : Option Tmp} {ty : TypeId} {pos : String} {af : Array Edge} {g : Option (Nat × Bool)}
theorem equalIn_sl {xT E : TypeId} (hT : P.underlying xT = some (.slice E)) (e : Nat) (a b : Option Addr) (n c n' c' : Nat) (w : World) (h : a = none ∨ b = none) : (Op.equalIn (e + 1) xT (.slice a n c) (.slice b n' c')).run P w = .ok (a.isNone && b.isNone) w := by
  cases a with
  | none => simp [Op.equalIn, run_underlying hT]
  | some a =>
    rcases h with h | rfl
    · cases h
    · simp [Op.equalIn, run_underlying hT]
theorem equal_sl {xT E : TypeId} (hT : P.underlying xT = some (.slice E)) (a b : Option Addr) (n c n' c' : Nat) (w : World) (h : a = none ∨ b = none) : (Op.equal xT (.slice a n c) (.slice b n' c')).run P w = .ok (a.isNone && b.isNone) w :=
  equalIn_sl hT 9999 a b n c n' c' w h
theorem guard_sl (op : BinOp) (xT : TypeId) (x y : Operand) (a b : Option Addr) (n c n' c' : Nat) (w : World) : (eqGuard op xT x y (.slice a n c) (.slice b n' c')).run P w = .ok () w := by
  unfold eqGuard; cases op <;> rfl
theorem sl_world {p : Option Addr} {n c : Nat} {φ : Phi} {v' : Value} (h : V φ (.slice p n c) v') (hc : c ≠ capE) : ∃ a n' c', v' = .slice a n' c' ∧ a.isNone = p.isNone := by
  cases h with
  | nilSlice => exact ⟨none, 0, 0, rfl, rfl⟩
  | slice i o n c L c' h1 h2 h3 h4 => exact ⟨_, _, _, rfl, rfl⟩
  | empty i o a c' => exact absurd rfl hc
theorem p_eqlNil {xT yT E : TypeId} {x : Operand} {p : Option Addr} {n c : Nat} (hT : P.underlying xT = some (.slice E)) (hx : aEv t x = some (.slice p n c)) (hc : c ≠ capE) :
    PureOk P N ⟨d, .binOp .eql xT x (.const (.slice none 0 0)) yT, ty, pos, af, g⟩ t (.bool p.isNone) := by
  intro φ w a he
  obtain ⟨q, n', c', e, hq⟩ := sl_world (ev_ok he hx) hc
  refine ⟨.bool p.isNone, ?_, .bool _⟩
  have e2 : a.eval (.const (.slice none 0 0)) = .slice none 0 0 := rfl
  simp only [execOp]
  rw [e, e2]
  simp only [Sem.run_bind, guard_sl, Result.andThen_ok]
  show ((do pure (Value.bool (← Op.equal xT (.slice q n' c') (.slice none 0 0))) : Sem Value).run P w).andThen _ = _
  rw [Sem.run_bind, equal_sl hT _ _ _ _ _ _ _ (.inr rfl), hq]
  simp
theorem p_neqNil {xT yT E : TypeId} {x : Operand} {p : Option Addr} {n c : Nat} (hT : P.underlying xT = some (.slice E)) (hx : aEv t x = some (.slice p n c)) (hc : c ≠ capE) :
    PureOk P N ⟨d, .binOp .neq xT x (.const (.slice none 0 0)) yT, ty, pos, af, g⟩ t (.bool (!p.isNone)) := by
  intro φ w a he
  obtain ⟨q, n', c', e, hq⟩ := sl_world (ev_ok he hx) hc
  refine ⟨.bool (!p.isNone), ?_, .bool _⟩
  have e2 : a.eval (.const (.slice none 0 0)) = .slice none 0 0 := rfl
  simp only [execOp]
  rw [e, e2]
  simp only [Sem.run_bind, guard_sl, Result.andThen_ok]
  show ((do pure (Value.bool (!(← Op.equal xT (.slice q n' c') (.slice none 0 0)))) : Sem Value).run P w).andThen _ = _
  rw [Sem.run_bind, equal_sl hT _ _ _ _ _ _ _ (.inr rfl), hq]
  simp
end rules
theorem Sb.ne {p : Option Addr} {n c m : Nat} (h : Sb p n c m) (hm : Nat.blt m 1000000 = true) : c ≠ capE := by
  have := Nat.le_of_ble_eq_true hm
  rcases h with ⟨_, _, rfl⟩ | ⟨i, _, rfl | ⟨_, h⟩⟩
  · unfold capE capU; omega
  · unfold capE capU; omega
  · unfold capE; omega
section st
variable {M : List Nat} {H G : AHeap} {L : List Sg} {T : Tb} {j : Nat} {q : Option Addr} {c : Nat} {xs : List Int}
end st
theorem TSb.put {T : Tb} {j : Nat} {q : Option Addr} {c : Nat} {xs : List Int} (h : TSb T) (k : Sb q xs.length c 1) : TSb (T.set j (q, c, xs)) := fun x hx => by
  rcases List.mem_or_eq_of_mem_set hx with hx | rfl
  · exact h x hx
  · exact k
end Go.Proofs.Ytdafmafigcljkaa.Am
namespace Go.Proofs.Ytdafmafigcljkaa.Am
open Go
end Go.Proofs.Ytdafmafigcljkaa.Am
namespace Go.Proofs.Ytdafmafigcljkaa.Am
open Go
section
variable {M : List Nat} {H G : AHeap} {L : List Sg} {T : Tb} {j : Nat} {q : Option Addr} {c : Nat} {xs : List Int}
end
def TNe (T : Tb) : Prop := ∀ x ∈ T, x.2.1 ≠ capE
theorem TNe.at {T : Tb} {j : Nat} {p : Option Addr} {c : Nat} {xs : List Int} (h : TNe T) (e : T[j]? = some (p, c, xs)) : c ≠ capE := h _ (List.mem_of_getElem? e)
theorem TSb.tne {T : Tb} (h : TSb T) : TNe T := fun x hx => (h x hx).ne rfl
/-! slices of tables, read -/
abbrev Tb3 := List (Option Addr × Nat × Tb)
def thdr3 (x : Option Addr × Nat × Tb) : Value := .slice x.1 x.2.2.length x.2.1
def tcells3 (T : Tb3) : List Value := T.map thdr3
def trows3 (T : Tb3) : List (List (List Int)) := T.map fun x => trows x.2.2
def rw3 (R : List (List (List Int))) (k : Nat) : List (List Int) := R.getD k []
def TVw3 (G : AHeap) (T : Tb3) : Prop := ∀ x ∈ T, Vw G x.1 x.2.2.length x.2.1 (tcells x.2.2) ∧ TVw G x.2.2
theorem TVw3.at1 {G : AHeap} {T : Tb3} {j : Nat} {p : Option Addr} {c n : Nat} {X : Tb} (h : TVw3 G T) (e : T[j]? = some (p, c, X)) {R : List (List Int)} (hX : trows X = R) (hn : R.length = n) : Vw G p n c (tcells X) := by
  have := (h _ (List.mem_of_getElem? e)).1
  rwa [show (p, c, X).2.2.length = n from by rw [← hn, ← hX, trows_len]] at this
theorem TVw3.at2 {G : AHeap} {T : Tb3} {j : Nat} {p : Option Addr} {c : Nat} {X : Tb} (h : TVw3 G T) (e : T[j]? = some (p, c, X)) : TVw G X := (h _ (List.mem_of_getElem? e)).2
theorem TVw3.nil {G : AHeap} : TVw3 G [] := fun x h => by cases h
theorem TVw3.cons {G : AHeap} {p : Option Addr} {c n : Nat} {X : Tb} {R : List (List Int)} {T : Tb3} (h1 : Vw G p n c (tcells X)) (hX : trows X = R) (hn : R.length = n) (h2 : TVw G X) (h : TVw3 G T) : TVw3 G ((p, c, X) :: T) := fun x hx => by
  rcases List.mem_cons.1 hx with rfl | hx
  · refine ⟨?_, h2⟩
    show Vw G p X.length c (tcells X)
    rwa [show X.length = n from by rw [← hn, ← hX, trows_len]]
  · exact h x hx
end Go.Proofs.Ytdafmafigcljkaa.Am
namespace Go.Proofs.Ytdafmafigcljkaa.Am
open Go Go.RowKit
section
variable {P : Program} {N : Nat} {t : Env} {H : AHeap} {d : Option Tmp} {ty : TypeId} {pos : String} {af : Array Edge} {g : Option (Nat × Bool)}
end
end Go.Proofs.Ytdafmafigcljkaa.Am
namespace Go.Proofs.Ytdafmafigcljkaa.Am
open Go
theorem set_le {G G' : AHeap} {i : Nat} {o : AObj} (h : G.set i o = G') : G.length ≤ G'.length := by rw [← h, List.length_set]; exact Nat.le_refl _
end Go.Proofs.Ytdafmafigcljkaa.Am
namespace Go.Proofs.Ytdafmafigcljkaa.Am
open Go
theorem St.tone {M : List Nat} {H G : AHeap} {L : List Sg} {s : Sg} (S : St M H G (s :: L)) (p : Option Addr) (c : Nat) (xs : List Int) (h : s = oseg p (ints xs)) : St M H G (tseg [(p, c, xs)] :: L) := S.same (by simp [tseg, h])
end Go.Proofs.Ytdafmafigcljkaa.Am
/-
  Orders that are open: the check on the edges by bit masks, once for a region. No condition.
-/
namespace Go.Proofs.Ytdafmafigcljkaa.Am
open Go Go.RowKit
set_option linter.unusedVariables false
set_option linter.unusedSimpArgs false

def Msk (m : Nat) (l : List Nat) : Prop := ∀ j, m.testBit j = decide (j ∈ l)
def befM (ops : List Oper) : List Nat :=
  ops.foldl (fun acc o => acc ++ [o.after.toList.foldl (fun s e => if Region.binds .any e then s ||| ((1 <<< e.on) ||| acc.getD e.on 0) else s) 0]) []
theorem Msk.zero : Msk 0 [] := fun j => by simp
theorem Msk.step {s a : Nat} {l k : List Nat} (h : Msk s l) (g : Msk a k) (i : Nat) : Msk (s ||| ((1 <<< i) ||| a)) ((i :: k) ++ l) := fun j => by
  rw [Nat.testBit_or, Nat.testBit_or, h j, g j, Nat.shiftLeft_eq, Nat.one_mul, Nat.testBit_two_pow]
  by_cases h1 : i = j <;> by_cases h2 : j ∈ k <;> by_cases h3 : j ∈ l <;> simp [h1, h2, h3, eq_comm]
  all_goals (intro h4; exact absurd h4.symm h1)
theorem befM_ok (ops : List Oper) : (befM ops).length = (befAll ops).length ∧ ∀ k, Msk ((befM ops).getD k 0) ((befAll ops).getD k []) := by
  have key : ∀ (l : List Oper) (a : List Nat) (b : List (List Nat)), a.length = b.length → (∀ k, Msk (a.getD k 0) (b.getD k [])) →
      (l.foldl (fun acc o => acc ++ [o.after.toList.foldl (fun s e => if Region.binds .any e then s ||| ((1 <<< e.on) ||| acc.getD e.on 0) else s) 0]) a).length =
      (l.foldl (fun acc o => acc ++ [o.after.toList.foldl (fun s e => if Region.binds .any e then (e.on :: acc.getD e.on []) ++ s else s) []]) b).length ∧
      ∀ k, Msk ((l.foldl (fun acc o => acc ++ [o.after.toList.foldl (fun s e => if Region.binds .any e then s ||| ((1 <<< e.on) ||| acc.getD e.on 0) else s) 0]) a).getD k 0)
        ((l.foldl (fun acc o => acc ++ [o.after.toList.foldl (fun s e => if Region.binds .any e then (e.on :: acc.getD e.on []) ++ s else s) []]) b).getD k []) := by
    intro l
    induction l with
    | nil => intro a b h1 h2; exact ⟨h1, h2⟩
    | cons o l ih =>
      intro a b h1 h2
      have hf : ∀ (es : List Edge) (s : Nat) (t : List Nat), Msk s t → Msk (es.foldl (fun s e => if Region.binds .any e then s ||| ((1 <<< e.on) ||| a.getD e.on 0) else s) s) (es.foldl (fun s e => if Region.binds .any e then (e.on :: b.getD e.on []) ++ s else s) t) := by
        intro es
        induction es with
        | nil => intro s t h; exact h
        | cons e es ihe =>
          intro s t h
          rw [List.foldl_cons, List.foldl_cons]
          refine ihe _ _ ?_
          split
          · exact h.step (h2 e.on) e.on
          · exact h
      rw [List.foldl_cons, List.foldl_cons]
      refine ih _ _ (by simp [h1]) fun k => ?_
      rcases Nat.lt_trichotomy k a.length with hk | hk | hk
      · have e1 : ∀ x : Nat, (a ++ [x]).getD k 0 = a.getD k 0 := fun x => by simp [List.getD_eq_getElem?_getD, List.getElem?_append_left hk]
        have e2 : ∀ x : List Nat, (b ++ [x]).getD k [] = b.getD k [] := fun x => by simp [List.getD_eq_getElem?_getD, List.getElem?_append_left (by omega : k < b.length)]
        rw [e1, e2]; exact h2 k
      · subst hk
        have e1 : ∀ x : Nat, (a ++ [x]).getD a.length 0 = x := fun x => by simp [List.getD_eq_getElem?_getD]
        have e2 : ∀ x : List Nat, (b ++ [x]).getD a.length [] = x := fun x => by rw [h1]; simp [List.getD_eq_getElem?_getD]
        rw [e1, e2]; exact hf _ _ _ .zero
      · have e1 : ∀ x : Nat, (a ++ [x]).getD k 0 = 0 := fun x => by rw [List.getD_eq_getElem?_getD, List.getElem?_eq_none (by simp; omega)]; rfl
        have e2 : ∀ x : List Nat, (b ++ [x]).getD k [] = [] := fun x => by rw [List.getD_eq_getElem?_getD, List.getElem?_eq_none (by simp; omega)]; rfl
        rw [e1, e2]; exact .zero
  exact key ops [] [] rfl (fun k => by simpa using Msk.zero)
theorem bef_bit (ops : List Oper) (k j : Nat) : ((befAll ops).getD k []).contains j = ((befM ops).getD k 0).testBit j := by
  rw [(befM_ok ops).2 k j]
  by_cases h : j ∈ (befAll ops).getD k []
  · rw [decide_eq_true h, List.contains_iff_mem.2 h]
  · rw [decide_eq_false h]
    cases hc : ((befAll ops).getD k []).contains j with
    | false => rfl
    | true => exact absurd (List.contains_iff_mem.1 hc) h

def staticM (ops : List Oper) (opsA : Array Oper) (wr : List Bool) : Bool :=
  let bef := befM ops
  (List.range ops.length).all fun k =>
    let ok := ops.getD k default
    let bk := bef.getD k 0
    (ok.after.toList.all fun e => !Region.binds .any e || Nat.blt e.on k) &&
    (List.range k).all fun j => bk.testBit j || ((ops.getD j default).apart opsA ok && !(wr.getD j false && wr.getD k false))
theorem staticM_eq (ops : List Oper) (opsA : Array Oper) (wr : List Bool) : staticOk ops opsA wr = staticM ops opsA wr := by
  unfold staticOk staticM
  simp only [bef_bit]
def leAll : List Bool → List Bool → Bool
  | [], _ => true
  | a :: l, [] => !a && leAll l []
  | a :: l, b :: k => (!a || b) && leAll l k
theorem leAll_ok : ∀ {l k : List Bool}, leAll l k = true → ∀ j, l.getD j false = true → k.getD j false = true
  | [], k, _, j, h => by simp at h
  | a :: l, [], h, j, hj => by
    simp only [leAll, Bool.and_eq_true] at h
    cases j with
    | zero => simp at hj; rw [hj] at h; simp at h
    | succ j => simp at hj; have := leAll_ok h.2 j (by simpa using hj); simp at this
  | a :: l, b :: k, h, j, hj => by
    simp only [leAll, Bool.and_eq_true] at h
    cases j with
    | zero => simp at hj ⊢; rw [hj] at h; simpa using h.1
    | succ j => simp at hj ⊢; simpa using leAll_ok h.2 j (by simpa using hj)
theorem static_mono {ops : List Oper} {opsA : Array Oper} {wr wr' : List Bool} (h : staticOk ops opsA wr' = true) (hl : leAll wr wr' = true) : staticOk ops opsA wr = true := by
  unfold staticOk at *
  rw [List.all_eq_true] at *
  intro k hk
  have := h k hk
  simp only [Bool.and_eq_true, List.all_eq_true, Bool.or_eq_true] at this ⊢
  refine ⟨this.1, fun j hj => ?_⟩
  rcases this.2 j hj with h1 | h1
  · exact .inl h1
  · refine .inr ⟨h1.1, ?_⟩
    have h2 := h1.2
    cases ha : wr.getD j false <;> cases hb : wr.getD k false <;> try rfl
    rw [leAll_ok hl j ha, leAll_ok hl k hb] at h2; exact h2
section dx
variable {P : Program} {N : Nat} {l₀ : List Oper} {t₀ : Env} {H₀ : AHeap} {Q : Exit → Env → AHeap → Prop} {l : List Oper} {t : Env} {H : AHeap} {acc : List Ev}
theorem DX.startS {id : Nat} (wr : List Bool) (hm : P.follows .mixedOrders = true) (st : staticM l l.toArray wr = true) (h : staticM l l.toArray wr = true → DX P N l t H Q l t H []) : AX P N (.region id l.toArray true) t H Q := DX.start hm (h st)
theorem DX.nilS {wr : List Bool} (st : staticM l₀ l₀.toArray wr = true) (hl : leAll (acc.map (·.kd.isWrite)) wr = true) (dyn : dynOk l₀ acc) (h : Q .normal t H) : DX P N l₀ t₀ H₀ Q [] t H acc :=
  DX.nil (static_mono (by rw [staticM_eq]; exact st) hl) dyn h
end dx
def ordPsM (ops : List Oper) (wr ra : List Bool) (ps : List (Nat × Nat)) : Bool :=
  let bef := befM ops
  (List.range ra.length).all fun k => !(ra.getD k false) || (List.range wr.length).all fun u => !(wr.getD u false) || (bef.getD u 0).testBit k || (bef.getD k 0).testBit u || ps.any (fun p => p.1 == k && p.2 == u)
theorem ordPsM_eq (ops : List Oper) (wr ra : List Bool) (ps : List (Nat × Nat)) : ordPs ops wr ra ps = ordPsM ops wr ra ps := by
  unfold ordPs ordPsM
  simp only [bef_bit]
theorem dyn_pairsM {ops : List Oper} {es : List Ev} (ps : List (Nat × Nat)) (h : ordPsM ops (es.map fun e => e.kd.isWrite) (es.map fun e => e.kd.isRA) ps = true) (hp : pairsAll es ps) : dynOk ops es :=
  dyn_pairs ps (by rw [ordPsM_eq]; exact h) hp
end Go.Proofs.Ytdafmafigcljkaa.Am
/-
  Orders that are open: what has been done, the last first. No condition.
-/
namespace Go.Proofs.Ytdafmafigcljkaa.Am
open Go Go.RowKit
set_option linter.unusedVariables false
set_option linter.unusedSimpArgs false
def DR (P : Program) (N : Nat) (l₀ : List Oper) (t₀ : Env) (H₀ : AHeap) (Q : Exit → Env → AHeap → Prop) (l : List Oper) (t : Env) (H : AHeap) (acc : List Ev) : Prop := DX P N l₀ t₀ H₀ Q l t H acc.reverse
def pairOkR (es : List Ev) (k u : Nat) (lt : Bool) : Prop :=
  match es[k]?, es[u]? with
  | some e, some f => (match e.kd with
    | .read cs => ∀ c ∈ cs, c.1 < f.H.length → hget f.H' c.1 = hget f.H c.1
    | .alloc _ => lt = true → hget f.H' e.H.length = hget f.H e.H.length
    | _ => True)
  | _, _ => True
/-- pairs by their places from the end -/
def pairsAllR (es : List Ev) (n : Nat) : List (Nat × Nat) → Prop
  | [] => True
  | (k, u) :: r => pairOkR es (n - 1 - k) (n - 1 - u) (Nat.blt k u) ∧ pairsAllR es n r
section dx
variable {P : Program} {N : Nat} {l₀ : List Oper} {t₀ : Env} {H₀ : AHeap} {Q : Exit → Env → AHeap → Prop} {l : List Oper} {t : Env} {H : AHeap} {acc : List Ev}
variable {d : Nat} {op : Op} {ty : TypeId} {pos : String} {af : Array Edge} {v : Value}
theorem rev_get {es : List Ev} {k : Nat} (h : k < es.length) : es.reverse[k]? = es[es.length - 1 - k]? := by rw [List.getElem?_reverse h]
theorem pairsR_ok {n : Nat} (hn : acc.length = n) : ∀ {ps : List (Nat × Nat)}, (ps.all fun p => Nat.blt p.1 n && Nat.blt p.2 n) = true → pairsAllR acc n ps → pairsAll acc.reverse ps
  | [], _, _ => trivial
  | (k, u) :: r, hb, h => by
    simp only [List.all_cons, Bool.and_eq_true, Nat.blt_eq] at hb
    refine ⟨?_, pairsR_ok hn hb.2 h.2⟩
    have h1 := h.1
    unfold pairOkR at h1
    unfold pairOk
    rw [rev_get (by omega), rev_get (by omega), hn]
    cases e1 : acc[n - 1 - k]? with
    | none => trivial
    | some e =>
      cases e2 : acc[n - 1 - u]? with
      | none => trivial
      | some f =>
        rw [e1, e2] at h1
        dsimp only at h1 ⊢
        cases hk : e.kd <;> rw [hk] at h1 <;> dsimp only at h1 ⊢
        · exact h1
        · exact fun hlt => h1 (by rw [Nat.blt_eq]; exact hlt)
theorem DR.startS {id : Nat} (wr : List Bool) (hm : P.follows .mixedOrders = true) (st : staticM l l.toArray wr = true) (h : staticM l l.toArray wr = true → DR P N l t H Q l t H []) : AX P N (.region id l.toArray true) t H Q := DX.startS wr hm st h
theorem DR.nil {wr : List Bool} (n : Nat) (ps : List (Nat × Nat)) (st : staticM l₀ l₀.toArray wr = true) (hc : (leAll (acc.reverse.map (·.kd.isWrite)) wr && Nat.beq acc.length n && (ps.all fun p => Nat.blt p.1 n && Nat.blt p.2 n) && ordPsM l₀ (acc.reverse.map fun e => e.kd.isWrite) (acc.reverse.map fun e => e.kd.isRA) ps) = true)
    (hp : pairsAllR acc n ps) (h : Q .normal t H) : DR P N l₀ t₀ H₀ Q [] t H acc := by
  simp only [Bool.and_eq_true] at hc
  obtain ⟨⟨⟨h1, h2⟩, h3⟩, h4⟩ := hc
  exact DX.nilS st h1 (dyn_pairsM ps h4 (pairsR_ok (Nat.eq_of_beq_eq_true h2) h3 hp)) h
theorem DR.p (hd : Nat.blt d N = true) (hs : noSel op = true) (h : PureOk P N ⟨some d, op, ty, pos, af, none⟩ (restr (Oper.looksAt l₀.toArray ⟨some d, op, ty, pos, af, none⟩) t) v)
    (k : DR P N l₀ t₀ H₀ Q l ((d, v) :: t) H (⟨.pure, v, H, H⟩ :: acc)) : DR P N l₀ t₀ H₀ Q (⟨some d, op, ty, pos, af, none⟩ :: l) t H acc := by
  unfold DR at *
  rw [List.reverse_cons] at k
  exact DX.p hd hs h k
theorem DR.pb {b : Bool} (hd : Nat.blt d N = true) (hs : noSel op = true) (h : PureOk P N ⟨some d, op, ty, pos, af, none⟩ (restr (Oper.looksAt l₀.toArray ⟨some d, op, ty, pos, af, none⟩) t) (.bool b))
    (kT : b = true → DR P N l₀ t₀ H₀ Q l ((d, .bool true) :: t) H (⟨.pure, .bool true, H, H⟩ :: acc)) (kF : b = false → DR P N l₀ t₀ H₀ Q l ((d, .bool false) :: t) H (⟨.pure, .bool false, H, H⟩ :: acc)) :
    DR P N l₀ t₀ H₀ Q (⟨some d, op, ty, pos, af, none⟩ :: l) t H acc := by
  unfold DR at *
  simp only [List.reverse_cons] at kT kF
  exact DX.pb hd hs h kT kF
theorem DR.gp {j e : Nat} {want : Bool} (hj : (l₀.toArray[j]?).bind (·.dst) = some e) (hb : eget (restr (Oper.looksAt l₀.toArray ⟨some d, op, ty, pos, af, some (j, want)⟩) t) e = some (.bool want)) (hd : Nat.blt d N = true) (hs : noSel op = true)
    (h : PureOk P N ⟨some d, op, ty, pos, af, some (j, want)⟩ (restr (Oper.looksAt l₀.toArray ⟨some d, op, ty, pos, af, some (j, want)⟩) t) v)
    (k : DR P N l₀ t₀ H₀ Q l ((d, v) :: t) H (⟨.pure, v, H, H⟩ :: acc)) : DR P N l₀ t₀ H₀ Q (⟨some d, op, ty, pos, af, some (j, want)⟩ :: l) t H acc := by
  unfold DR at *
  rw [List.reverse_cons] at k
  exact DX.gp hj hb hd hs h k
theorem DR.gn {j e : Nat} {want : Bool} (hj : (l₀.toArray[j]?).bind (·.dst) = some e) (hb : eget (restr (Oper.looksAt l₀.toArray ⟨some d, op, ty, pos, af, some (j, want)⟩) t) e = some (.bool (!want))) (hd : Nat.blt d N = true) (hs : noSel op = true)
    (k : DR P N l₀ t₀ H₀ Q l ((d, undef) :: t) H (⟨.skip, undef, H, H⟩ :: acc)) : DR P N l₀ t₀ H₀ Q (⟨some d, op, ty, pos, af, some (j, want)⟩ :: l) t H acc := by
  unfold DR at *
  rw [List.reverse_cons] at k
  exact DX.gn hj hb hd hs k
theorem DR.gu {j e : Nat} {want : Bool} (hj : (l₀.toArray[j]?).bind (·.dst) = some e) (hb : eget (restr (Oper.looksAt l₀.toArray ⟨some d, op, ty, pos, af, some (j, want)⟩) t) e = some undef) (hd : Nat.blt d N = true) (hs : noSel op = true)
    (k : DR P N l₀ t₀ H₀ Q l ((d, undef) :: t) H (⟨.skip, undef, H, H⟩ :: acc)) : DR P N l₀ t₀ H₀ Q (⟨some d, op, ty, pos, af, some (j, want)⟩ :: l) t H acc := by
  unfold DR at *
  rw [List.reverse_cons] at k
  exact DX.gu hj hb hd hs k
theorem DR.r {cs : List (Nat × Nat × Value)} (hd : Nat.blt d N = true) (hs : noSel op = true) (h : ROk P N ⟨some d, op, ty, pos, af, none⟩ (restr (Oper.looksAt l₀.toArray ⟨some d, op, ty, pos, af, none⟩) t) cs v)
    (hc : ∀ c ∈ cs, hcell H c.1 c.2.1 = some c.2.2 ∧ Bel H.length c.2.2)
    (k : DR P N l₀ t₀ H₀ Q l ((d, v) :: t) H (⟨.read cs, v, H, H⟩ :: acc)) : DR P N l₀ t₀ H₀ Q (⟨some d, op, ty, pos, af, none⟩ :: l) t H acc := by
  unfold DR at *
  rw [List.reverse_cons] at k
  exact DX.r hd hs h hc k
theorem DR.gr {j e : Nat} {want : Bool} {cs : List (Nat × Nat × Value)} (hj : (l₀.toArray[j]?).bind (·.dst) = some e) (hb : eget (restr (Oper.looksAt l₀.toArray ⟨some d, op, ty, pos, af, some (j, want)⟩) t) e = some (.bool want)) (hd : Nat.blt d N = true) (hs : noSel op = true)
    (h : ROk P N ⟨some d, op, ty, pos, af, some (j, want)⟩ (restr (Oper.looksAt l₀.toArray ⟨some d, op, ty, pos, af, some (j, want)⟩) t) cs v)
    (hc : ∀ c ∈ cs, hcell H c.1 c.2.1 = some c.2.2 ∧ Bel H.length c.2.2)
    (k : DR P N l₀ t₀ H₀ Q l ((d, v) :: t) H (⟨.read cs, v, H, H⟩ :: acc)) : DR P N l₀ t₀ H₀ Q (⟨some d, op, ty, pos, af, some (j, want)⟩ :: l) t H acc := by
  unfold DR at *
  rw [List.reverse_cons] at k
  exact DX.gr hj hb hd hs h hc k
theorem DR.a {cells : List Value} {i : Nat} {H' : AHeap} (hd : Nat.blt d N = true) (hs : noSel op = true) (hi : H.length = i) (hH : H ++ [AObj.row false cells] = H') (h : AOk P N ⟨some d, op, ty, pos, af, none⟩ (restr (Oper.looksAt l₀.toArray ⟨some d, op, ty, pos, af, none⟩) t) cells i v)
    (k : DR P N l₀ t₀ H₀ Q l ((d, v) :: t) H' (⟨.alloc cells, v, H, H'⟩ :: acc)) : DR P N l₀ t₀ H₀ Q (⟨some d, op, ty, pos, af, none⟩ :: l) t H acc := by
  unfold DR at *
  rw [List.reverse_cons] at k
  exact DX.a hd hs hi hH h k
theorem DR.w {H' : AHeap} (hd : Nat.blt d N = true) (hs : noSel op = true) (h : OpOk P N ⟨some d, op, ty, pos, af, none⟩ (restr (Oper.looksAt l₀.toArray ⟨some d, op, ty, pos, af, none⟩) t) H v H') (hl : H.length ≤ H'.length)
    (k : DR P N l₀ t₀ H₀ Q l ((d, v) :: t) H' (⟨.write, v, H, H'⟩ :: acc)) : DR P N l₀ t₀ H₀ Q (⟨some d, op, ty, pos, af, none⟩ :: l) t H acc := by
  unfold DR at *
  rw [List.reverse_cons] at k
  exact DX.w hd hs h hl k
theorem DR.s {H' : AHeap} (hs : noSel op = true) (h : OpOk P N ⟨none, op, ty, pos, af, none⟩ (restr (Oper.looksAt l₀.toArray ⟨none, op, ty, pos, af, none⟩) t) H v H') (hl : H.length ≤ H'.length)
    (k : DR P N l₀ t₀ H₀ Q l t H' (⟨.write, v, H, H'⟩ :: acc)) : DR P N l₀ t₀ H₀ Q (⟨none, op, ty, pos, af, none⟩ :: l) t H acc := by
  unfold DR at *
  rw [List.reverse_cons] at k
  exact DX.s hs h hl k
end dx
end Go.Proofs.Ytdafmafigcljkaa.Am
/-
  The entry, continued: arguments as slices that are read. No condition.
-/
namespace Go.Proofs.Ytdafmafigcljkaa.Am
open Go Go.RowKit
set_option linter.unusedVariables false
set_option linter.unusedSimpArgs false
section
variable {P : Program} {H : AHeap} {k : Nat}
theorem Vw.ofRow {i c n : Nat} {cs : List Value} (h : hget H i = .row true cs) : Vw H (some ⟨i, 0, none⟩) n c cs :=
  ⟨.inr ⟨i, 0, rfl, row_lt h⟩, fun _ => rfl, fun j v e => by show hcell H i (0 + j) = _; rw [Nat.zero_add]; exact row_cell h e⟩
end
end Go.Proofs.Ytdafmafigcljkaa.Am
/-
  Maps from numbers to truth values: made, written, counted. No condition.
-/
namespace Go.Proofs.Ytdafmafigcljkaa.Am
open Go Go.RowKit
set_option linter.unusedVariables false
set_option linter.unusedSimpArgs false

/-! numbers to truth values -/
section maps
variable {P : Program} {N : Nat} {t : Env} {H : AHeap} {d : Option Tmp} {ty : TypeId} {pos : String} {af : Array Edge} {g : Option (Nat × Bool)}
theorem a_make1 {T E : TypeId} {x y : Operand} {k j : IntKind} {n : Int} {by_ i : Nat} {z v : Value} {us : List Value} {ti : TypeInfo} (hT : P.underlying T = some (.slice E)) (hi : ∀ w, (typeInfo E).run P w = .ok ti w) (hm : ∀ w, (sizeOf E).run P w = .ok 1 w)
    (hz : ∀ w, (zeroValue E).run P w = .ok z w) (hzc : z.cells.toList = [v]) (hf : flat0 v = true) (hb : ti.bytes = by_) (hby : Nat.ble by_ 65536 = true) (hx : aEv t x = some (.int k n)) (hy : aEv t y = some (.int j n)) (hn : 0 ≤ n ∧ n ≤ 4294967296) (hus : us = List.replicate n.toNat v) :
    AOk P N ⟨d, .makeSlice T x y, ty, pos, af, g⟩ t us i (.slice (some ⟨i, 0, none⟩) n.toNat n.toNat) := by
  subst hus
  have e : n = (n.toNat : Int) := by omega
  rw [e] at hx hy
  have hb' := Nat.le_of_ble_eq_true hby
  have := a_makeSlice (N := N) (d := d) (ty := ty) (pos := pos) (af := af) (g := g) (i := i) hx hy hT hi hm hz (by rw [hzc]; intro c hc; rw [List.mem_singleton.1 hc]; exact hf) (by rw [← Array.length_toList, hzc]; rfl) hb (Nat.le_refl _) (Nat.le_trans (Nat.mul_le_mul (show n.toNat ≤ 4294967296 by omega) hb') (by decide)) (by omega) Nat.one_pos
  rw [hzc, flatten_single'] at this
  exact this
end maps
end Go.Proofs.Ytdafmafigcljkaa.Am
/-
  Rows of tables that are held across a loop. No condition.
-/
namespace Go.Proofs.Ytdafmafigcljkaa.Am
open Go Go.RowKit
theorem Vw.len {G : AHeap} {p : Option Addr} {n m c : Nat} {vs : List Value} (h : Vw G p n c vs) (e : n = m) : Vw G p m c vs := e ▸ h
theorem Sb.len {p : Option Addr} {n m c k : Nat} (h : Sb p n c k) (e : n = m) : Sb p m c k := e ▸ h
theorem AX.cutS {P : Program} {N : Nat} {t : Env} {H : AHeap} {Q : Exit → Env → AHeap → Prop} {x : Code} (M : Env → AHeap → Prop) (h1 : AX P N x t H (aThen M Q)) (h2 : ∀ t' H', M t' H' → ∃ t2, Sub t2 t' ∧ Q .normal t2 H') : AX P N x t H Q := by
  obtain ⟨e, t1, H1, hq, hw⟩ := h1
  cases e with
  | normal =>
    obtain ⟨t2, hs2, hq2⟩ := h2 _ _ hq
    refine ⟨.normal, t2, H1, hq2, fun W φ₀ H₀ w₀ dfr φ w a hs he hst hdf => wp_mono (hw W φ₀ H₀ w₀ dfr φ w a hs he hst hdf) ?_⟩
    rintro ex a' w' ⟨hd, φ', t', H', s1, s2, s3, s4⟩
    obtain ⟨rfl, rfl, rfl⟩ := s4
    exact ⟨hd, φ', t2, H', s1, s2.sub hs2, s3, rfl, rfl, rfl⟩
  | _ => exact ⟨_, t1, H1, hq, hw⟩
variable {P : Program} {N : Nat} {t : Env} {H : AHeap} {d : Option Tmp} {ty : TypeId} {pos : String} {af : Array Edge} {g : Option (Nat × Bool)}
end Go.Proofs.Ytdafmafigcljkaa.Am
/-
  What a call of the library hands back in memory of its own, as the abstract machine has it. No condition.
-/
namespace Go.Proofs.Ytdafmafigcljkaa.Am
open Go Go.RowKit
set_option linter.unusedVariables false
set_option linter.unusedSimpArgs false

theorem mine_lt {W : World} {φ : Phi} {H : AHeap} {w : World} (hs : Sim W φ H w) (i : Nat) (L : Loc) (e : φ i = some L) (hm : (hget H i).isRow = true) : L.block < w.heap.size := by
  have := hs.obj i L e
  cases ho : hget H i with
  | dead => rw [ho] at hm; cases hm
  | row ro cells =>
    rw [ho] at this hm
    cases ro with
    | true => cases hm
    | false => exact (this.own rfl).2
  | map es => rw [ho] at hm; cases hm
/-- what lay lies as it lay -/
theorem below_ok {W : World} {φ φ' : Phi} {H : AHeap} {w w' : World} (hs : Sim W φ H w) (hb : Below w.heap.size w w') (hm : ∀ i L, φ i = some L → φ' i = some L) {i : Nat} {L : Loc} (e : φ i = some L) : ObjOk W.heap.size φ' L (hget H i) w' := by
  have := hs.obj i L e
  cases ho : hget H i with
  | dead => trivial
  | row ro cells =>
    rw [ho] at this
    refine ⟨this.fits, ?_, this.old, fun hr => ⟨(this.own hr).1, by have := (this.own hr).2; have := hb.size; omega⟩, fun hr j hj => ?_⟩
    · intro j c hc
      obtain ⟨c', h1, h2⟩ := this.reads j c hc
      exact ⟨c', (hb.cell (p := ⟨L.block, L.off + j, none⟩) (World.block_lt_of_cell? _ _ h1)).trans h1, h2.mono hm⟩
    · rw [hb.cell (p := ⟨L.block, L.off + j, none⟩) (this.own hr).2, hb.frozen (p := ⟨L.block, L.off + j, none⟩) (this.own hr).2]; exact this.there hr j hj
  | map es =>
    rw [ho] at this
    exact ⟨this.off, this.ext, ⟨this.own.1, by have := this.own.2; have := hb.size; omega⟩, this.flat, by rw [hb.block _ this.own.2]; exact this.holds⟩
theorem same_ok {W : World} {φ : Phi} {H : AHeap} {w w' : World} (hs : Sim W φ H w) (hb : Below w.heap.size w w') : Sim W φ H w' ∧ Step φ H w φ H w' := by
  refine ⟨⟨hs.dom, fun i L e => below_ok hs hb (fun _ _ h => h) e, hs.disj, hs.mdisj, hs.base.trans (hb.mono hs.base.size)⟩, ⟨fun _ _ => rfl, Nat.le_refl _, hb.size, ?_, ?_, fun _ _ _ h => h⟩⟩
  · intro b o h _; exact hb.cell (p := ⟨b, o, none⟩) h
  · intro b o h _; exact hb.frozen (p := ⟨b, o, none⟩) h
/-- a block more at the end -/
theorem grown_ok {W : World} {φ : Phi} {H : AHeap} {w w' : World} (hs : Sim W φ H w) (hb : Below w.heap.size w w') {g ext : Nat} (hg : w.heap.size ≤ g) (hg' : g < w'.heap.size) (cells : List Value) (hlen : cells.length ≤ ext)
    (hv : ∀ (j : Nat) c, cells[j]? = some c → ∃ c', w'.cell? ⟨g, j, none⟩ = some c' ∧ V φ c c') (hrow : ∀ j, j < ext → (∃ u, w'.cell? ⟨g, j, none⟩ = some u) ∧ w'.frozen? ⟨g, j, none⟩ = false) :
    ∃ φ', Sim W φ' (H ++ [.row false cells]) w' ∧ Step φ H w φ' (H ++ [.row false cells]) w' ∧ φ' H.length = some ⟨g, 0, ext⟩ := by
  have hfresh : φ H.length = none := by
    cases e : φ H.length with
    | none => rfl
    | some L => exact absurd (hs.dom _ _ e) (Nat.lt_irrefl _)
  let φ' : Phi := fun i => if i = H.length then some ⟨g, 0, ext⟩ else φ i
  have hm : ∀ i L, φ i = some L → φ' i = some L := fun i L e => by
    have : i ≠ H.length := fun he => by rw [he, hfresh] at e; cases e
    simp [φ', this, e]
  have hnew : φ' H.length = some ⟨g, 0, ext⟩ := by simp [φ']
  have hother : ∀ i, i ≠ H.length → φ' i = φ i := fun i hi => by simp [φ', hi]
  have new : ∀ k K, k ≠ H.length → φ' k = some K → (hget (H ++ [AObj.row false cells]) k).isRow = true → K.block < w.heap.size := fun k K hk ek hk' => by
    rw [hother k hk] at ek
    rw [hget_append_lt (hs.dom k K ek)] at hk'
    exact mine_lt hs k K ek hk'
  refine ⟨φ', ⟨?_, ?_, ?_, ?_, ?_⟩, ⟨?_, ?_, ?_, ?_, ?_, ?_⟩, hnew⟩
  · intro i L e
    by_cases hi : i = H.length
    · subst hi; simp
    · rw [hother i hi] at e; have := hs.dom i L e; simp; omega
  · intro i L e
    by_cases hi : i = H.length
    · subst hi
      rw [hnew] at e
      obtain rfl := Option.some.inj e
      rw [hget_len]
      refine ⟨hlen, ?_, (by intro h; cases h), fun _ => ⟨Nat.le_trans hs.base.size hg, hg'⟩, fun _ j hj => by rw [Nat.zero_add]; exact hrow j hj⟩
      intro j c hc
      obtain ⟨c', h1, h2⟩ := hv j c hc
      exact ⟨c', by rw [Nat.zero_add]; exact h1, h2.mono hm⟩
    · rw [hother i hi] at e
      rw [hget_append_lt (hs.dom i L e)]
      exact below_ok hs hb hm e
  · intro i j L M hij ei ej hi hj
    by_cases h1 : i = H.length
    · subst h1
      rw [hnew] at ei; obtain rfl := Option.some.inj ei
      exact .inl (by have := new j M (fun h => hij h.symm) ej hj; simp; omega)
    · by_cases h2 : j = H.length
      · subst h2
        rw [hnew] at ej; obtain rfl := Option.some.inj ej
        exact .inl (by have := new i L h1 ei hi; simp; omega)
      · rw [hother i h1] at ei; rw [hother j h2] at ej
        rw [hget_append_lt (hs.dom i L ei)] at hi; rw [hget_append_lt (hs.dom j M ej)] at hj
        exact hs.disj i j L M hij ei ej hi hj
  · intro i j L M hij ei ej hi hj
    have h1 : i ≠ H.length := fun h => by subst h; rw [hget_len] at hi; cases hi
    have h2 : j ≠ H.length := fun h => by subst h; rw [hget_len] at hj; cases hj
    rw [hother i h1] at ei; rw [hother j h2] at ej
    rw [hget_append_lt (hs.dom i L ei)] at hi; rw [hget_append_lt (hs.dom j M ej)] at hj
    exact hs.mdisj i j L M hij ei ej hi hj
  · exact hs.base.trans (hb.mono hs.base.size)
  · intro i hi; exact hother i (Nat.ne_of_lt hi)
  · simp
  · exact hb.size
  · intro b o h _; exact hb.cell (p := ⟨b, o, none⟩) h
  · intro b o h _; exact hb.frozen (p := ⟨b, o, none⟩) h
  · rintro b o hb' ⟨i, L, e, hr, h1, h2, h3⟩
    by_cases hi : i = H.length
    · subst hi; rw [hnew] at e; obtain rfl := Option.some.inj e; simp at h1; omega
    · rw [hother i hi] at e
      rw [hget_append_lt (hs.dom i L e)] at hr
      exact ⟨i, L, e, hr, h1, h2, h3⟩
/-- A call that hands back a slice that owns its cells, in blocks of its own. -/
theorem fresh_call {P : Program} {f : FuncId} {args : List Value} {H : AHeap} {E : TypeId} (ss : List Int)
    (h : ∀ W φ w args', Sim W φ H w → VA φ args args' → Calls P f args' w fun e w' => ∃ v, e = .returned v ∧ w'.ownsRow w.heap.size E 1 v ss.length (ss.map (Value.int .i64)) ∧ (v = .slice none 0 0 ↔ ss = []) ∧ Below w.heap.size w w') :
    ∃ v G', ACall P f args H v G' ∧ ∃ (p : Option Addr) (c : Nat), v = .slice p ss.length c ∧ St [] H G' [oseg p (ints ss)] ∧ Sb p ss.length c 1 := by
  by_cases hss : ss = []
  · subst hss
    refine ⟨.slice none 0 0, H, ?_, none, 0, rfl, ?_, Sb.nil⟩
    · intro W φ w args' hs hva
      refine (h W φ w args' hs hva).mono ?_
      rintro e w' ⟨v, rfl, hrow, hnil, hb⟩
      obtain ⟨h1, h2⟩ := same_ok hs hb
      exact ⟨v, φ, rfl, h1, by rw [hnil.2 rfl]; exact .nilSlice, h2⟩
    · have := (St.nil H).nilseg 0; exact this
  · obtain ⟨G', i, hi, hG, S⟩ := (St.nil H).new (.row false (ints ss))
    refine ⟨.slice (some ⟨i, 0, none⟩) ss.length (capU + 1), G', ?_, some ⟨i, 0, none⟩, capU + 1, rfl, S, .inr ⟨i, rfl, .inl rfl⟩⟩
    intro W φ w args' hs hva
    refine (h W φ w args' hs hva).mono ?_
    rintro e w' ⟨v, rfl, hrow, hnil, hb⟩
    rcases hrow.2 with ⟨e0, _⟩ | ⟨g, cap, cur, rfl, hbase, hgb, r1, r2, r3, r4⟩
    · exact absurd (hnil.1 e0) hss
    · have hgl : g < w'.heap.size := (Array.getElem?_eq_some_iff.1 hgb).1
      have hcell : ∀ j, j < cur.size → w'.cell? ⟨g, j, none⟩ = cur[j]? := fun j hj => by simp [World.cell?, hgb]
      have hfr : ∀ j, w'.frozen? ⟨g, j, none⟩ = false := fun j => by simp [World.frozen?, hgb]
      have hv : ∀ (j : Nat) c, (ints ss)[j]? = some c → ∃ c', w'.cell? ⟨g, j, none⟩ = some c' ∧ V φ c c' := by
        intro j c hc
        have hj : j < ss.length := by have := (List.getElem?_eq_some_iff.1 hc).1; rw [ints_length] at this; exact this
        have e1 : cur.toList[j]? = (ss.map (Value.int .i64))[j]? := by
          rw [← r4, List.getElem?_take, if_pos (by omega)]
        refine ⟨c, ?_, ?_⟩
        · rw [hcell j (by omega), ← Array.getElem?_toList, e1]; exact hc
        · have : (ints ss)[j]? = some (.int .i64 ss[j]) := by simp [ints, hj]
          rw [this] at hc
          obtain rfl := Option.some.inj hc
          exact .int _ _
      obtain ⟨φ', h1, h2, h3⟩ := grown_ok hs hb hbase hgl (ints ss) (ext := cur.size) (by rw [ints_length]; omega) hv (fun j hj => ⟨⟨cur[j], by rw [hcell j hj]; exact Array.getElem?_eq_getElem hj⟩, hfr j⟩)
      rw [← hG, ← hi]
      refine ⟨_, φ', rfl, h1, ?_, h2⟩
      have hu : ∀ m, capU + 1 = capU + m → 0 + cap * m ≤ (Loc.mk g 0 cur.size).ext := by
        intro m hm
        have h9 : m = 1 := by omega
        subst h9
        show 0 + cap * 1 ≤ cur.size
        omega
      have := V.slice (φ := φ') H.length 0 ss.length (capU + 1) ⟨g, 0, cur.size⟩ cap h3 (fun h => absurd h (by omega)) hu r1
      simpa using this
end Go.Proofs.Ytdafmafigcljkaa.Am
/-
  A row that a call of the library has written anew, as the abstract machine has it. No condition.
-/
namespace Go.Proofs.Ytdafmafigcljkaa.Am
open Go Go.RowKit Go.Sort
set_option linter.unusedVariables false
set_option linter.unusedSimpArgs false

theorem put_wrote {w : World} {b q : Nat} {xs ys : List Int} (hH : Holds (Value.int .i64) w b q xs.toArray) (hl : ys.length = xs.length) (n : Nat) : Wrote w (putRow (Value.int .i64) (Sort.ahead w n) b q ys.toArray) b q (q + ys.length) := by
  have hH' : Holds (Value.int .i64) (Sort.ahead w n) b q xs.toArray := fun j hj => hH j hj
  refine ⟨?_, ?_, ?_, ?_, ?_, ?_⟩
  · intro b' o h
    rw [cell?_putRow_other]
    · rfl
    · simp only [List.size_toArray]
      by_cases e : b' = b
      · subst e
        by_cases h1 : q ≤ o
        · exact .inr (.inr (by have : ¬ o < q + ys.length := fun h2 => h ⟨rfl, h1, h2⟩
                               simpa using this))
        · exact .inr (.inl (by simpa using h1))
      · exact .inl e
  · intro o h1 h2
    have := cell?_putRow (Value.int .i64) (Sort.ahead w n) b q xs.toArray ys.toArray hH' (by simpa using hl) (o - q) (by simp; omega)
    rw [show q + (o - q) = o by omega] at this
    exact ⟨_, this⟩
  · intro b' o; rw [frozen?_putRow]; rfl
  · simp [Sort.ahead]
  · intro b' es c h
    show ((Sort.ahead w n).heap.modify b (onCells _))[b']? = _
    rw [Array.getElem?_modify]
    split
    · have : (Sort.ahead w n).heap[b']? = some (.map es c) := h
      rw [this]; rfl
    · exact h
  · intro B W hB hb
    refine ⟨hb.os, hb.tape, hb.output, by simpa [Sort.ahead] using hb.size, fun k hk => ?_⟩
    have : (putRow (Value.int .i64) (Sort.ahead w n) b q ys.toArray).heap[k]? = w.heap[k]? := by
      show ((Sort.ahead w n).heap.modify b (onCells _))[k]? = _
      rw [Array.getElem?_modify, if_neg (by omega)]; rfl
    rw [this]; exact hb.block k hk
theorem row_holds {W : World} {φ : Phi} {H : AHeap} {w : World} (hs : Sim W φ H w) {i : Nat} {L : Loc} (hL : φ i = some L) {xs : List Int} (hi : hget H i = .row false (ints xs)) : Holds (Value.int .i64) w L.block L.off xs.toArray := by
  have ho := hs.obj i L hL
  rw [hi] at ho
  intro j hj
  have hj' : j < xs.length := by simpa using hj
  have e : (ints xs)[j]? = some (.int .i64 xs[j]) := by simp [ints, hj']
  obtain ⟨c', h1, h2⟩ := ho.reads j _ e
  have hfit := ho.fits
  rw [ints_length] at hfit
  refine ⟨?_, (ho.there rfl j (by omega)).2⟩
  rw [h1]
  cases h2
  simp [hj']
theorem grow_below (w : World) (os : Array Obj) : Below w.heap.size w (grow w os) := ⟨rfl, rfl, rfl, by simp, fun k hk => heap_grow_old w os hk⟩
theorem put_ok {W : World} {φ : Phi} {H : AHeap} {w : World} (hs : Sim W φ H w) {i : Nat} {L : Loc} (hL : φ i = some L) {xs ys : List Int} (hi : hget H i = .row false (ints xs)) (hl : ys.length = xs.length) (n : Nat) (os : Array Obj) :
    Sim W φ (H.set i (.row false (ints ys))) (grow (putRow (Value.int .i64) (Sort.ahead w n) L.block L.off ys.toArray) os) ∧ Step φ H w φ (H.set i (.row false (ints ys))) (grow (putRow (Value.int .i64) (Sort.ahead w n) L.block L.off ys.toArray) os) := by
  have hH := row_holds hs hL hi
  have ho := hs.obj i L hL
  rw [hi] at ho
  have hfit := ho.fits
  rw [ints_length] at hfit
  have hH' : Holds (Value.int .i64) (Sort.ahead w n) L.block L.off xs.toArray := fun j hj => hH j hj
  obtain ⟨h1, h2⟩ := rewrite_ok (cs2 := ints ys) hs hL hi (put_wrote hH hl n) (Nat.le_refl _) (by omega) (by rw [ints_length]; omega) (by
    intro j c hc
    have hj : j < ys.length := by have := (List.getElem?_eq_some_iff.1 hc).1; rw [ints_length] at this; exact this
    have e : (ints ys)[j]? = some (.int .i64 ys[j]) := by simp [ints, hj]
    rw [e] at hc
    obtain rfl := Option.some.inj hc
    refine ⟨_, cell?_putRow (Value.int .i64) (Sort.ahead w n) L.block L.off xs.toArray ys.toArray hH' (by simpa using hl) j (by simpa using hj), ?_⟩
    have : ys.toArray[j]! = ys[j] := by simp [hj]
    rw [this]; exact .int _ _)
  obtain ⟨h3, h4⟩ := same_ok h1 (grow_below _ os)
  exact ⟨h3, h2.trans h4⟩
end Go.Proofs.Ytdafmafigcljkaa.Am
/-
  A call of the library that writes a row of one's own anew, as the abstract machine has it. No condition.
-/
namespace Go.Proofs.Ytdafmafigcljkaa.Am
open Go Go.RowKit Go.Sort
set_option linter.unusedVariables false
set_option linter.unusedSimpArgs false

theorem put_call {P : Program} {f : FuncId} (H : AHeap) (p_a0 : Option Addr) (c_a0 : Nat) (a0 ys : List Int) (s_a0 : Sb p_a0 a0.length c_a0 1) (hn : ((oseg p_a0 (ints a0)).map (·.1)).Nodup) (ho : ∀ x ∈ oseg p_a0 (ints a0), x.1 < H.length ∧ hget H x.1 = x.2) (hlen : ys.length = a0.length)
    (h1 : ∀ (blk off cap : Nat) (w : World), Holds (Value.int .i64) w blk off a0.toArray → blk < w.heap.size → a0.length ≤ cap → Calls P f #[.slice (some ⟨blk, off, none⟩) a0.length cap] w fun e w' => e = .returned (.tuple #[]) ∧ ∃ n os, w' = grow (putRow (Value.int .i64) (Sort.ahead w n) blk off ys.toArray) os)
    (h0 : ∀ (a : Option Addr) (cap : Nat) (w : World), Calls P f #[.slice a 0 cap] w fun e w' => e = .returned (.tuple #[]) ∧ w' = w) :
    ∃ v G', ACall P f [.slice p_a0 a0.length c_a0] H v G' ∧ (v = .tuple #[]) ∧ St ((oseg p_a0 (ints a0)).map (·.1)) H G' [oseg p_a0 (ints ys)] ∧ ys.length = a0.length := by
  have tupV : ∀ φ, V φ (.tuple #[]) (.tuple #[]) := fun φ => .tuple _ _ rfl (fun i u u' h => by simp at h)
  by_cases ha : a0 = []
  · subst ha
    obtain rfl := List.eq_nil_of_length_eq_zero hlen
    refine ⟨.tuple #[], H, ?_, rfl, (St.init (l := oseg p_a0 (ints [])) hn ho).same (by simp), rfl⟩
    intro W φ w args' hs hva
    have hsz := hva.size
    obtain ⟨u0, h0'⟩ : ∃ u, args'[0]? = some u := ⟨_, Array.getElem?_eq_getElem (by rw [hsz]; exact Nat.zero_lt_one)⟩
    have hv0 := hva.get 0 _ _ rfl h0'
    obtain ⟨a, cap, he⟩ : ∃ a cap, u0 = .slice a 0 cap := by
      cases hv0 with
      | nilSlice => exact ⟨_, _, rfl⟩
      | slice => exact ⟨_, _, rfl⟩
      | empty => exact ⟨_, _, rfl⟩
    have hargs : args' = #[.slice a 0 cap] := by
      apply Array.ext_getElem?
      intro j
      cases j with
      | zero => rw [h0', he]; rfl
      | succ j => rw [Array.getElem?_eq_none (by rw [hsz]; simp), Array.getElem?_eq_none (by simp)]
    rw [hargs]
    refine (h0 a cap w).mono ?_
    rintro e w' ⟨rfl, rfl⟩
    exact ⟨_, φ, rfl, hs, tupV φ, Step.refl _ _ _⟩
  · have hpos : 0 < a0.length := List.length_pos_iff.2 ha
    have hp := s_a0.at hpos
    generalize hb : blk p_a0 = b at hp
    subst hp
    have hgb := (ho (b, .row false (ints a0)) (by simp [oseg])).2
    have hgl := (ho (b, .row false (ints a0)) (by simp [oseg])).1
    refine ⟨.tuple #[], H.set b (.row false (ints ys)), ?_, rfl, ?_, hlen⟩
    · intro W φ w args' hs hva
      have hsz := hva.size
      obtain ⟨u0, h0'⟩ : ∃ u, args'[0]? = some u := ⟨_, Array.getElem?_eq_getElem (by rw [hsz]; exact Nat.zero_lt_one)⟩
      have hv0 := hva.get 0 _ _ rfl h0'
      obtain ⟨L, c', hL, he, hcc, hcu, hnc⟩ : ∃ L c', φ b = some L ∧ u0 = .slice (some ⟨L.block, L.off + 0, none⟩) a0.length c' ∧ (c_a0 < capU → c' = c_a0) ∧ (∀ m, c_a0 = capU + m → 0 + c' * m ≤ L.ext) ∧ a0.length ≤ c' := by
        obtain ⟨L, c', h, rfl, h1, h2, h3⟩ := hv0.inv_slice (.inl (by omega))
        exact ⟨L, c', h, rfl, h1, h2, h3⟩
      have hargs : args' = #[.slice (some ⟨L.block, L.off + 0, none⟩) a0.length c'] := by
        apply Array.ext_getElem?
        intro j
        cases j with
        | zero => rw [h0', he]; rfl
        | succ j => rw [Array.getElem?_eq_none (by rw [hsz]; simp), Array.getElem?_eq_none (by simp)]
      have hH := row_holds hs hL hgb
      have hbl : L.block < w.heap.size := by
        have e : (ints a0)[0]? = some (.int .i64 a0[0]) := by simp [ints, hpos]
        have ho' := hs.obj b L hL
        rw [hgb] at ho'
        obtain ⟨q, g1, g2⟩ := ho'.reads 0 _ e
        exact World.block_lt_of_cell? _ _ g1
      rw [hargs]
      refine (h1 L.block (L.off + 0) c' w hH hbl hnc).mono ?_
      rintro e w' ⟨rfl, q, os, rfl⟩
      have hk := put_ok hs hL hgb hlen q os
      exact ⟨_, φ, rfl, hk.1, tupV φ, hk.2⟩
    · obtain ⟨G', hG, S⟩ := (St.init (l := oseg (some ⟨b, 0, none⟩) (ints a0)) hn ho).set (k := 0) (i := b) rfl (.row false (ints ys))
      rw [hG]; exact S
end Go.Proofs.Ytdafmafigcljkaa.Am
/-
  s[lo:] of a slice of arrays that is read, as the abstract machine has it. No condition.
-/
namespace Go.Proofs.Ytdafmafigcljkaa.Am
open Go Go.RowKit
set_option linter.unusedVariables false
set_option linter.unusedSimpArgs false

def subc (c n l : Nat) : Nat := if l < n then (if c < capU then c - l else c) else capE
section pure
variable {P : Program} {N : Nat} {t : Env} {d : Option Tmp} {ty : TypeId} {pos : String} {af : Array Edge} {g : Option (Nat × Bool)}
theorem p_subl {T : TypeId} {x y : Operand} {E : TypeId} {m n c : Nat} {kl : IntKind} {z : Int} {p : Option Addr} (hT : P.underlying T = some (.slice E)) (hm : ∀ w, (sizeOf E).run P w = .ok m w) (hx : aEv t x = some (.slice p n c)) (hp : p = some ⟨blk p, off p, none⟩) (hy : aEv t y = some (.int kl z))
    (hz : 0 ≤ z ∧ z ≤ ((n : Nat) : Int) ∧ 0 < n) (hcu : c < capU ∨ c = capU + m) :
    PureOk P N ⟨d, .slice T x (some y) none none, ty, pos, af, g⟩ t (.slice (some (Addr.mk (blk p) (off p + z.toNat * m) none)) (n - z.toNat) (subc c n z.toNat)) := by
  obtain ⟨h0, h1, h2⟩ := hz
  generalize hl : z.toNat = l
  have hzl : z = (l : Int) := by omega
  subst hzl
  have hln : l ≤ n := by omega
  generalize hb : blk p = b at hp
  generalize ho : off p = o at hp
  subst hp
  unfold subc
  by_cases h3 : l < n
  · rw [if_pos h3]
    exact p_slice (kh := .i64) hx (.inr ⟨y, rfl, hy⟩) (.inl ⟨rfl, rfl⟩) hT hm hln (Nat.le_refl _) h3 hcu
  · rw [if_neg h3]
    obtain rfl : l = n := by omega
    rw [Nat.sub_self]
    intro φ w a he
    obtain ⟨L, c', hL, e, hc, hu, hn⟩ := (ev_ok he hx).inv_slice (.inl (by omega))
    by_cases hc' : c' = l
    · refine ⟨.slice (some ⟨L.block, L.off + o, none⟩) 0 (c' - l), ?_, ?_⟩
      · simp [execOp, e, Instr.sliceAt, Instr.slice, run_underlying hT, Instr.sliceBounds, Instr.sliceBound, asIntOf, ev_int he hy, hm, add_none, hc']
      · exact .empty _ _ _ _
    · refine ⟨.slice (some ⟨L.block, L.off + o + l * m, none⟩) 0 (c' - l), ?_, ?_⟩
      · simp [execOp, e, Instr.sliceAt, Instr.slice, run_underlying hT, Instr.sliceBounds, Instr.sliceBound, asIntOf, ev_int he hy, hm, add_none, hc', Nat.add_assoc]
      · exact .empty _ _ _ _
end pure
theorem drop_flat {m : Nat} : ∀ {rs : List (List Int)} (hA : All m rs) (l : Nat), l ≤ rs.length → (rs.drop l).flatten = rs.flatten.drop (l * m)
  | rs, hA, 0, _ => by simp
  | [], hA, l + 1, h => absurd h (by simp)
  | r :: rs, hA, l + 1, h => by
    have hr : r.length = m := hA r (by simp)
    have := drop_flat (fun x hx => hA x (by simp [hx])) l (by simpa using h : l ≤ rs.length)
    rw [List.drop_succ_cons, this, List.flatten_cons, List.drop_append, List.drop_of_length_le (l := r) (by rw [hr, Nat.add_mul]; omega), List.nil_append]
    congr 1
    rw [hr, Nat.add_mul]; omega
theorem Vw.dropR {G : AHeap} {p : Option Addr} {n c c' m l : Nat} {rs : List (List Int)} (h : Vw G p n c (ints rs.flatten)) (hA : All m rs) (hm : 0 < m) (hl : l ≤ rs.length) (h0 : 0 < rs.length) :
    Vw G (some (Addr.mk (blk p) (off p + l * m) none)) (rs.length - l) c' (ints (rs.drop l).flatten) := by
  have hne : ints rs.flatten ≠ [] := fun e => by
    have := flat_len hA
    have h1 : (ints rs.flatten).length = 0 := by rw [e]; rfl
    rw [ints_length, this] at h1
    have := Nat.mul_pos h0 hm
    omega
  refine ⟨.inr ⟨blk p, _, rfl, ?_⟩, fun _ => rfl, fun j v e => ?_⟩
  · rcases h.inn with ⟨rfl, _, _⟩ | ⟨i, o, rfl, hi⟩
    · have := h.at_ hne; cases this
    · exact hi
  · have e' : (ints rs.flatten)[l * m + j]? = some v := by
      rw [drop_flat hA l hl] at e
      unfold ints at e ⊢
      rw [List.getElem?_map] at e ⊢
      rw [List.getElem?_drop] at e
      exact e
    have := h.get _ _ e'
    show hcell G (blk p) (off p + l * m + j) = some v
    rw [Nat.add_assoc]; exact this
theorem z_le {z : Int} {n : Nat} (h : z ≤ ((n : Nat) : Int)) : z.toNat ≤ n := by omega
theorem all_drop {m l : Nat} {rs : List (List Int)} (h : All m rs) : All m (rs.drop l) := fun r hr => h r (List.mem_of_mem_drop hr)
theorem Sb.cu {p : Option Addr} {n c m : Nat} (h : Sb p n c m) : c < capU ∨ c = capU + m := by
  rcases h with ⟨_, _, rfl⟩ | ⟨i, _, h | ⟨_, h⟩⟩
  · exact .inl (by unfold capU; omega)
  · exact .inr h
  · exact .inl h
end Go.Proofs.Ytdafmafigcljkaa.Am
