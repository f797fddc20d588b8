
/-
  The abstract machine, texts joined: Am21, Am22, Am23, Am24, Am25, Am26, Am27, Am28, Am29, Am30, Am31. No condition.
-/
import Derived.Test.YtdafmafigcljkaaGreatK4
import Derived.Laws.AppendOwn
import Derived.Sort.Grow
/-
  More rules in the shape in which the second program prints them: nil, slices of slices made and written. No condition.
-/
namespace Go.Proofs.YtdafmafigcljkaaGreat.Am
open Go Go.RowKit
set_option linter.unusedVariables false
set_option linter.unusedSimpArgs false
section rules
variable {P : Program} {N : Nat} {t : Env} {H : AHeap} {d : Option Tmp} {ty : TypeId} {pos : String} {af : Array Edge} {g : Option (Nat × Bool)}
theorem equalIn_sl {xT E : TypeId} (hT : P.underlying xT = some (.slice E)) (e : Nat) (a b : Option Addr) (n c n' c' : Nat) (w : World) (h : a = none ∨ b = none) : (Op.equalIn (e + 1) xT (.slice a n c) (.slice b n' c')).run P w = .ok (a.isNone && b.isNone) w := by
  cases a with
  | none => simp [Op.equalIn, run_underlying hT]
  | some a =>
    rcases h with h | rfl
    · cases h
    · simp [Op.equalIn, run_underlying hT]
theorem equal_sl {xT E : TypeId} (hT : P.underlying xT = some (.slice E)) (a b : Option Addr) (n c n' c' : Nat) (w : World) (h : a = none ∨ b = none) : (Op.equal xT (.slice a n c) (.slice b n' c')).run P w = .ok (a.isNone && b.isNone) w :=
  equalIn_sl hT 9999 a b n c n' c' w h
theorem guard_sl (op : BinOp) (xT : TypeId) (x y : Operand) (a b : Option Addr) (n c n' c' : Nat) (w : World) : (eqGuard op xT x y (.slice a n c) (.slice b n' c')).run P w = .ok () w := by
  unfold eqGuard; cases op <;> rfl
theorem sl_world {p : Option Addr} {n c : Nat} {φ : Phi} {v' : Value} (h : V φ (.slice p n c) v') (hc : c ≠ capE) : ∃ a n' c', v' = .slice a n' c' ∧ a.isNone = p.isNone := by
  cases h with
  | nilSlice => exact ⟨none, 0, 0, rfl, rfl⟩
  | slice i o n c L c' h1 h2 h3 h4 => exact ⟨_, _, _, rfl, rfl⟩
  | empty i o a c' => exact absurd rfl hc
theorem p_eqlNil {xT yT E : TypeId} {x : Operand} {p : Option Addr} {n c : Nat} (hT : P.underlying xT = some (.slice E)) (hx : aEv t x = some (.slice p n c)) (hc : c ≠ capE) :
    PureOk P N ⟨d, .binOp .eql xT x (.const (.slice none 0 0)) yT, ty, pos, af, g⟩ t (.bool p.isNone) := by
  intro φ w a he
  obtain ⟨q, n', c', e, hq⟩ := sl_world (ev_ok he hx) hc
  refine ⟨.bool p.isNone, ?_, .bool _⟩
  have e2 : a.eval (.const (.slice none 0 0)) = .slice none 0 0 := rfl
  simp only [execOp]
  rw [e, e2]
  simp only [Sem.run_bind, guard_sl, Result.andThen_ok]
  show ((do pure (Value.bool (← Op.equal xT (.slice q n' c') (.slice none 0 0))) : Sem Value).run P w).andThen _ = _
  rw [Sem.run_bind, equal_sl hT _ _ _ _ _ _ _ (.inr rfl), hq]
  simp
theorem p_neqNil {xT yT E : TypeId} {x : Operand} {p : Option Addr} {n c : Nat} (hT : P.underlying xT = some (.slice E)) (hx : aEv t x = some (.slice p n c)) (hc : c ≠ capE) :
    PureOk P N ⟨d, .binOp .neq xT x (.const (.slice none 0 0)) yT, ty, pos, af, g⟩ t (.bool (!p.isNone)) := by
  intro φ w a he
  obtain ⟨q, n', c', e, hq⟩ := sl_world (ev_ok he hx) hc
  refine ⟨.bool (!p.isNone), ?_, .bool _⟩
  have e2 : a.eval (.const (.slice none 0 0)) = .slice none 0 0 := rfl
  simp only [execOp]
  rw [e, e2]
  simp only [Sem.run_bind, guard_sl, Result.andThen_ok]
  show ((do pure (Value.bool (!(← Op.equal xT (.slice q n' c') (.slice none 0 0)))) : Sem Value).run P w).andThen _ = _
  rw [Sem.run_bind, equal_sl hT _ _ _ _ _ _ _ (.inr rfl), hq]
  simp
end rules
theorem Sb.ne {p : Option Addr} {n c m : Nat} (h : Sb p n c m) (hm : Nat.blt m 1000000 = true) : c ≠ capE := by
  have := Nat.le_of_ble_eq_true hm
  rcases h with ⟨_, _, rfl⟩ | ⟨i, _, rfl | ⟨_, h⟩⟩
  · unfold capE capU; omega
  · unfold capE capU; omega
  · unfold capE; omega
section st
variable {M : List Nat} {H G : AHeap} {L : List Sg} {T : Tb} {j : Nat} {q : Option Addr} {c : Nat} {xs : List Int}
end st
theorem tcells_put (T : Tb) (j : Nat) (q : Option Addr) (c : Nat) (xs : List Int) : (tcells T).set j (.slice q xs.length c) = tcells (T.set j (q, c, xs)) := by unfold tcells; rw [List.map_set]; rfl
theorem TSb.put {T : Tb} {j : Nat} {q : Option Addr} {c : Nat} {xs : List Int} (h : TSb T) (k : Sb q xs.length c 1) : TSb (T.set j (q, c, xs)) := fun x hx => by
  rcases List.mem_or_eq_of_mem_set hx with hx | rfl
  · exact h x hx
  · exact k
theorem tc_lt {T : Tb} {R : List (List Int)} {n j : Nat} (hT : trows T = R) (hl : R.length = n) (hj : j < n) : j < (tcells T).length := by rw [tcells_len, tlen hT, hl]; exact hj
end Go.Proofs.YtdafmafigcljkaaGreat.Am
namespace Go.Proofs.YtdafmafigcljkaaGreat.Am
open Go
theorem vw_nil {G : AHeap} {p : Option Addr} {n c : Nat} {vs : List Value} (h : Vw G p n c vs) (hp : p.isNone = true) : n = 0 ∧ c = 0 := by
  rcases h.inn with ⟨_, h1, h2⟩ | ⟨i, o, rfl, _⟩
  · exact ⟨h1, h2⟩
  · cases hp
end Go.Proofs.YtdafmafigcljkaaGreat.Am
namespace Go.Proofs.YtdafmafigcljkaaGreat.Am
open Go
section
variable {M : List Nat} {H G : AHeap} {L : List Sg} {T : Tb} {j : Nat} {q : Option Addr} {c : Nat} {xs : List Int}
end
abbrev Tb3 := List (Option Addr × Nat × Tb)
def thdr3 (x : Option Addr × Nat × Tb) : Value := .slice x.1 x.2.2.length x.2.1
def tcells3 (T : Tb3) : List Value := T.map thdr3
def trows3 (T : Tb3) : List (List (List Int)) := T.map fun x => trows x.2.2
def rw3 (R : List (List (List Int))) (k : Nat) : List (List Int) := R.getD k []
def TVw3 (G : AHeap) (T : Tb3) : Prop := ∀ x ∈ T, Vw G x.1 x.2.2.length x.2.1 (tcells x.2.2) ∧ TVw G x.2.2
theorem tlen3 {T : Tb3} {R : List (List (List Int))} (h : trows3 T = R) : T.length = R.length := by rw [← h]; exact (List.length_map _).symm
theorem tc3_len1 {T : Tb3} {R : List (List (List Int))} {n : Nat} (hT : trows3 T = R) (h : R.length = n) : (tcells3 T).length = n * 1 := by
  unfold tcells3; rw [List.length_map, tlen3 hT, h, Nat.mul_one]
theorem tget3 {T : Tb3} {R : List (List (List Int))} {j : Nat} (h : trows3 T = R) (hj : j < R.length) : ∃ p c X, T[j]? = some (p, c, X) ∧ (tcells3 T)[j]? = some (.slice p (rw3 R j).length c) ∧ trows X = rw3 R j := by
  subst h
  have hj' : j < T.length := by rw [tlen3 rfl]; exact hj
  have e : rw3 (trows3 T) j = trows T[j].2.2 := by
    unfold rw3 trows3; rw [List.getD_eq_getElem?_getD, List.getElem?_map, List.getElem?_eq_getElem hj']; rfl
  refine ⟨T[j].1, T[j].2.1, T[j].2.2, List.getElem?_eq_getElem hj', ?_, e.symm⟩
  unfold tcells3; rw [List.getElem?_map, List.getElem?_eq_getElem hj', e, trows_len]; rfl
theorem TVw3.at1 {G : AHeap} {T : Tb3} {j : Nat} {p : Option Addr} {c n : Nat} {X : Tb} (h : TVw3 G T) (e : T[j]? = some (p, c, X)) {R : List (List Int)} (hX : trows X = R) (hn : R.length = n) : Vw G p n c (tcells X) := by
  have := (h _ (List.mem_of_getElem? e)).1
  rwa [show (p, c, X).2.2.length = n from by rw [← hn, ← hX, trows_len]] at this
theorem TVw3.at2 {G : AHeap} {T : Tb3} {j : Nat} {p : Option Addr} {c : Nat} {X : Tb} (h : TVw3 G T) (e : T[j]? = some (p, c, X)) : TVw G X := (h _ (List.mem_of_getElem? e)).2
theorem TVw3.nil {G : AHeap} : TVw3 G [] := fun x h => by cases h
theorem TVw3.cons {G : AHeap} {p : Option Addr} {c n : Nat} {X : Tb} {R : List (List Int)} {T : Tb3} (h1 : Vw G p n c (tcells X)) (hX : trows X = R) (hn : R.length = n) (h2 : TVw G X) (h : TVw3 G T) : TVw3 G ((p, c, X) :: T) := fun x hx => by
  rcases List.mem_cons.1 hx with rfl | hx
  · refine ⟨?_, h2⟩
    show Vw G p X.length c (tcells X)
    rwa [show X.length = n from by rw [← hn, ← hX, trows_len]]
  · exact h x hx
end Go.Proofs.YtdafmafigcljkaaGreat.Am
namespace Go.Proofs.YtdafmafigcljkaaGreat.Am
open Go Go.RowKit
theorem trows3_1 {X : Tb} {R : List (List Int)} {p : Option Addr} {c : Nat} (h : trows X = R) : trows3 [(p, c, X)] = [R] := by subst h; rfl
theorem trows3_2 {X Y : Tb} {R Q : List (List Int)} {p q : Option Addr} {c e : Nat} (h : trows X = R) (k : trows Y = Q) : trows3 [(p, c, X), (q, e, Y)] = [R, Q] := by subst h k; rfl
theorem vw3_1 {G : AHeap} {i n c : Nat} {p : Option Addr} {X : Tb} {R : List (List Int)} (h : hget G i = .row false [.slice p n c]) (hX : trows X = R) (hn : R.length = n) : Vw G (some ⟨i, 0, none⟩) 1 1 (tcells3 [(p, c, X)]) := by
  have e : tcells3 [(p, c, X)] = [.slice p n c] := by show [Value.slice p X.length c] = _; rw [show X.length = n from by rw [← hn, ← hX, trows_len]]
  rw [e]
  exact ⟨.inr ⟨i, 0, rfl, row_lt h⟩, fun _ => rfl, fun j v e => by show hcell G i (0 + j) = _; rw [Nat.zero_add]; exact row_cell h e⟩
theorem vw3_2 {G : AHeap} {i n c n' c' : Nat} {p q : Option Addr} {X Y : Tb} {R Q : List (List Int)} (h : hget G i = .row false [.slice p n c, .slice q n' c']) (hX : trows X = R) (hn : R.length = n) (hY : trows Y = Q) (hn' : Q.length = n') : Vw G (some ⟨i, 0, none⟩) 2 2 (tcells3 [(p, c, X), (q, c', Y)]) := by
  have e : tcells3 [(p, c, X), (q, c', Y)] = [.slice p n c, .slice q n' c'] := by
    show [Value.slice p X.length c, Value.slice q Y.length c'] = _
    rw [show X.length = n from by rw [← hn, ← hX, trows_len], show Y.length = n' from by rw [← hn', ← hY, trows_len]]
  rw [e]
  exact ⟨.inr ⟨i, 0, rfl, row_lt h⟩, fun _ => rfl, fun j v e => by show hcell G i (0 + j) = _; rw [Nat.zero_add]; exact row_cell h e⟩
section
variable {P : Program} {N : Nat} {t : Env} {H : AHeap} {d : Option Tmp} {ty : TypeId} {pos : String} {af : Array Edge} {g : Option (Nat × Bool)}
theorem s_buildSl {T E : TypeId} {len i : Nat} {ps : List (Nat × Operand)} {vs : List (Nat × Value)} {cs : List Value} {z : Value} {H' : AHeap} (hT : P.underlying T = some (.slice E)) (hm : ∀ w, (sizeOf E).run P w = .ok 1 w) (hz : ∀ w, (zeroValue E).run P w = .ok z w) (hzc : z = .slice none 0 0)
    (hp : ps.map (fun p => (p.1, aEv t p.2)) = vs.map (fun p => (p.1, some p.2))) (hlen : len ≤ 16777216) (hcs : partsOf 1 vs ((List.replicate len [.slice none 0 0]).flatten) = some cs) (hl : cs.length = len) (hidx : H.length = i) (hH : H ++ [AObj.row false cs] = H') :
    OpOk P N ⟨d, .buildSlice T len ps.toArray, ty, pos, af, g⟩ t H (.slice (some ⟨i, 0, none⟩) len len) H' := by
  subst hidx hH hzc
  exact m_buildSlice hp hT hm hz (by intro c hc; simp [Value.cells] at hc; subst hc; rfl) rfl Nat.one_pos (by omega) hcs (by omega)
end
end Go.Proofs.YtdafmafigcljkaaGreat.Am
namespace Go.Proofs.YtdafmafigcljkaaGreat.Am
open Go
theorem set_le {G G' : AHeap} {i : Nat} {o : AObj} (h : G.set i o = G') : G.length ≤ G'.length := by rw [← h, List.length_set]; exact Nat.le_refl _
end Go.Proofs.YtdafmafigcljkaaGreat.Am
namespace Go.Proofs.YtdafmafigcljkaaGreat.Am
open Go
theorem St.tone {M : List Nat} {H G : AHeap} {L : List Sg} {s : Sg} (S : St M H G (s :: L)) (p : Option Addr) (c : Nat) (xs : List Int) (h : s = oseg p (ints xs)) : St M H G (tseg [(p, c, xs)] :: L) := S.same (by simp [tseg, h])
end Go.Proofs.YtdafmafigcljkaaGreat.Am
/-
  Orders that are open: the check on the edges by bit masks, once for a region. No condition.
-/
namespace Go.Proofs.YtdafmafigcljkaaGreat.Am
open Go Go.RowKit
set_option linter.unusedVariables false
set_option linter.unusedSimpArgs false
def Msk (m : Nat) (l : List Nat) : Prop := ∀ j, m.testBit j = decide (j ∈ l)
def befM (ops : List Oper) : List Nat :=
  ops.foldl (fun acc o => acc ++ [o.after.toList.foldl (fun s e => if Region.binds .any e then s ||| ((1 <<< e.on) ||| acc.getD e.on 0) else s) 0]) []
theorem Msk.zero : Msk 0 [] := fun j => by simp
theorem Msk.step {s a : Nat} {l k : List Nat} (h : Msk s l) (g : Msk a k) (i : Nat) : Msk (s ||| ((1 <<< i) ||| a)) ((i :: k) ++ l) := fun j => by
  rw [Nat.testBit_or, Nat.testBit_or, h j, g j, Nat.shiftLeft_eq, Nat.one_mul, Nat.testBit_two_pow]
  by_cases h1 : i = j <;> by_cases h2 : j ∈ k <;> by_cases h3 : j ∈ l <;> simp [h1, h2, h3, eq_comm]
  all_goals (intro h4; exact absurd h4.symm h1)
theorem befM_ok (ops : List Oper) : (befM ops).length = (befAll ops).length ∧ ∀ k, Msk ((befM ops).getD k 0) ((befAll ops).getD k []) := by
  have key : ∀ (l : List Oper) (a : List Nat) (b : List (List Nat)), a.length = b.length → (∀ k, Msk (a.getD k 0) (b.getD k [])) →
      (l.foldl (fun acc o => acc ++ [o.after.toList.foldl (fun s e => if Region.binds .any e then s ||| ((1 <<< e.on) ||| acc.getD e.on 0) else s) 0]) a).length =
      (l.foldl (fun acc o => acc ++ [o.after.toList.foldl (fun s e => if Region.binds .any e then (e.on :: acc.getD e.on []) ++ s else s) []]) b).length ∧
      ∀ k, Msk ((l.foldl (fun acc o => acc ++ [o.after.toList.foldl (fun s e => if Region.binds .any e then s ||| ((1 <<< e.on) ||| acc.getD e.on 0) else s) 0]) a).getD k 0)
        ((l.foldl (fun acc o => acc ++ [o.after.toList.foldl (fun s e => if Region.binds .any e then (e.on :: acc.getD e.on []) ++ s else s) []]) b).getD k []) := by
    intro l
    induction l with
    | nil => intro a b h1 h2; exact ⟨h1, h2⟩
    | cons o l ih =>
      intro a b h1 h2
      have hf : ∀ (es : List Edge) (s : Nat) (t : List Nat), Msk s t → Msk (es.foldl (fun s e => if Region.binds .any e then s ||| ((1 <<< e.on) ||| a.getD e.on 0) else s) s) (es.foldl (fun s e => if Region.binds .any e then (e.on :: b.getD e.on []) ++ s else s) t) := by
        intro es
        induction es with
        | nil => intro s t h; exact h
        | cons e es ihe =>
          intro s t h
          rw [List.foldl_cons, List.foldl_cons]
          refine ihe _ _ ?_
          split
          · exact h.step (h2 e.on) e.on
          · exact h
      rw [List.foldl_cons, List.foldl_cons]
      refine ih _ _ (by simp [h1]) fun k => ?_
      rcases Nat.lt_trichotomy k a.length with hk | hk | hk
      · have e1 : ∀ x : Nat, (a ++ [x]).getD k 0 = a.getD k 0 := fun x => by simp [List.getD_eq_getElem?_getD, List.getElem?_append_left hk]
        have e2 : ∀ x : List Nat, (b ++ [x]).getD k [] = b.getD k [] := fun x => by simp [List.getD_eq_getElem?_getD, List.getElem?_append_left (by omega : k < b.length)]
        rw [e1, e2]; exact h2 k
      · subst hk
        have e1 : ∀ x : Nat, (a ++ [x]).getD a.length 0 = x := fun x => by simp [List.getD_eq_getElem?_getD]
        have e2 : ∀ x : List Nat, (b ++ [x]).getD a.length [] = x := fun x => by rw [h1]; simp [List.getD_eq_getElem?_getD]
        rw [e1, e2]; exact hf _ _ _ .zero
      · have e1 : ∀ x : Nat, (a ++ [x]).getD k 0 = 0 := fun x => by rw [List.getD_eq_getElem?_getD, List.getElem?_eq_none (by simp; omega)]; rfl
        have e2 : ∀ x : List Nat, (b ++ [x]).getD k [] = [] := fun x => by rw [List.getD_eq_getElem?_getD, List.getElem?_eq_none (by simp; omega)]; rfl
        rw [e1, e2]; exact .zero
  exact key ops [] [] rfl (fun k => by simpa using Msk.zero)
theorem bef_bit (ops : List Oper) (k j : Nat) : ((befAll ops).getD k []).contains j = ((befM ops).getD k 0).testBit j := by
  rw [(befM_ok ops).2 k j]
  by_cases h : j ∈ (befAll ops).getD k []
  · rw [decide_eq_true h, List.contains_iff_mem.2 h]
  · rw [decide_eq_false h]
    cases hc : ((befAll ops).getD k []).contains j with
    | false => rfl
    | true => exact absurd (List.contains_iff_mem.1 hc) h
def staticM (ops : List Oper) (opsA : Array Oper) (wr : List Bool) : Bool :=
  let bef := befM ops
  (List.range ops.length).all fun k =>
    let ok := ops.getD k default
    let bk := bef.getD k 0
    (ok.after.toList.all fun e => !Region.binds .any e || Nat.blt e.on k) &&
    (List.range k).all fun j => bk.testBit j || ((ops.getD j default).apart opsA ok && !(wr.getD j false && wr.getD k false))
theorem staticM_eq (ops : List Oper) (opsA : Array Oper) (wr : List Bool) : staticOk ops opsA wr = staticM ops opsA wr := by
  unfold staticOk staticM
  simp only [bef_bit]
def leAll : List Bool → List Bool → Bool
  | [], _ => true
  | a :: l, [] => !a && leAll l []
  | a :: l, b :: k => (!a || b) && leAll l k
theorem leAll_ok : ∀ {l k : List Bool}, leAll l k = true → ∀ j, l.getD j false = true → k.getD j false = true
  | [], k, _, j, h => by simp at h
  | a :: l, [], h, j, hj => by
    simp only [leAll, Bool.and_eq_true] at h
    cases j with
    | zero => simp at hj; rw [hj] at h; simp at h
    | succ j => simp at hj; have := leAll_ok h.2 j (by simpa using hj); simp at this
  | a :: l, b :: k, h, j, hj => by
    simp only [leAll, Bool.and_eq_true] at h
    cases j with
    | zero => simp at hj ⊢; rw [hj] at h; simpa using h.1
    | succ j => simp at hj ⊢; simpa using leAll_ok h.2 j (by simpa using hj)
theorem static_mono {ops : List Oper} {opsA : Array Oper} {wr wr' : List Bool} (h : staticOk ops opsA wr' = true) (hl : leAll wr wr' = true) : staticOk ops opsA wr = true := by
  unfold staticOk at *
  rw [List.all_eq_true] at *
  intro k hk
  have := h k hk
  simp only [Bool.and_eq_true, List.all_eq_true, Bool.or_eq_true] at this ⊢
  refine ⟨this.1, fun j hj => ?_⟩
  rcases this.2 j hj with h1 | h1
  · exact .inl h1
  · refine .inr ⟨h1.1, ?_⟩
    have h2 := h1.2
    cases ha : wr.getD j false <;> cases hb : wr.getD k false <;> try rfl
    rw [leAll_ok hl j ha, leAll_ok hl k hb] at h2; exact h2
section dx
variable {P : Program} {N : Nat} {l₀ : List Oper} {t₀ : Env} {H₀ : AHeap} {Q : Exit → Env → AHeap → Prop} {l : List Oper} {t : Env} {H : AHeap} {acc : List Ev}
theorem DX.startS {id : Nat} (wr : List Bool) (hm : P.follows .mixedOrders = true) (st : staticM l l.toArray wr = true) (h : staticM l l.toArray wr = true → DX P N l t H Q l t H []) : AX P N (.region id l.toArray true) t H Q := DX.start hm (h st)
theorem DX.nilS {wr : List Bool} (st : staticM l₀ l₀.toArray wr = true) (hl : leAll (acc.map (·.kd.isWrite)) wr = true) (dyn : dynOk l₀ acc) (h : Q .normal t H) : DX P N l₀ t₀ H₀ Q [] t H acc :=
  DX.nil (static_mono (by rw [staticM_eq]; exact st) hl) dyn h
end dx
def ordPsM (ops : List Oper) (wr ra : List Bool) (ps : List (Nat × Nat)) : Bool :=
  let bef := befM ops
  (List.range ra.length).all fun k => !(ra.getD k false) || (List.range wr.length).all fun u => !(wr.getD u false) || (bef.getD u 0).testBit k || (bef.getD k 0).testBit u || ps.any (fun p => p.1 == k && p.2 == u)
theorem ordPsM_eq (ops : List Oper) (wr ra : List Bool) (ps : List (Nat × Nat)) : ordPs ops wr ra ps = ordPsM ops wr ra ps := by
  unfold ordPs ordPsM
  simp only [bef_bit]
theorem dyn_pairsM {ops : List Oper} {es : List Ev} (ps : List (Nat × Nat)) (h : ordPsM ops (es.map fun e => e.kd.isWrite) (es.map fun e => e.kd.isRA) ps = true) (hp : pairsAll es ps) : dynOk ops es :=
  dyn_pairs ps (by rw [ordPsM_eq]; exact h) hp
end Go.Proofs.YtdafmafigcljkaaGreat.Am
/-
  Orders that are open: what has been done, the last first. No condition.
-/
namespace Go.Proofs.YtdafmafigcljkaaGreat.Am
open Go Go.RowKit
set_option linter.unusedVariables false
set_option linter.unusedSimpArgs false
def DR (P : Program) (N : Nat) (l₀ : List Oper) (t₀ : Env) (H₀ : AHeap) (Q : Exit → Env → AHeap → Prop) (l : List Oper) (t : Env) (H : AHeap) (acc : List Ev) : Prop := DX P N l₀ t₀ H₀ Q l t H acc.reverse
def pairOkR (es : List Ev) (k u : Nat) (lt : Bool) : Prop :=
  match es[k]?, es[u]? with
  | some e, some f => (match e.kd with
    | .read cs => ∀ c ∈ cs, c.1 < f.H.length → hget f.H' c.1 = hget f.H c.1
    | .alloc _ => lt = true → hget f.H' e.H.length = hget f.H e.H.length
    | _ => True)
  | _, _ => True
def pairsAllR (es : List Ev) (n : Nat) : List (Nat × Nat) → Prop
  | [] => True
  | (k, u) :: r => pairOkR es (n - 1 - k) (n - 1 - u) (Nat.blt k u) ∧ pairsAllR es n r
section dx
variable {P : Program} {N : Nat} {l₀ : List Oper} {t₀ : Env} {H₀ : AHeap} {Q : Exit → Env → AHeap → Prop} {l : List Oper} {t : Env} {H : AHeap} {acc : List Ev}
variable {d : Nat} {op : Op} {ty : TypeId} {pos : String} {af : Array Edge} {v : Value}
theorem rev_get {es : List Ev} {k : Nat} (h : k < es.length) : es.reverse[k]? = es[es.length - 1 - k]? := by rw [List.getElem?_reverse h]
theorem pairsR_ok {n : Nat} (hn : acc.length = n) : ∀ {ps : List (Nat × Nat)}, (ps.all fun p => Nat.blt p.1 n && Nat.blt p.2 n) = true → pairsAllR acc n ps → pairsAll acc.reverse ps
  | [], _, _ => trivial
  | (k, u) :: r, hb, h => by
    simp only [List.all_cons, Bool.and_eq_true, Nat.blt_eq] at hb
    refine ⟨?_, pairsR_ok hn hb.2 h.2⟩
    have h1 := h.1
    unfold pairOkR at h1
    unfold pairOk
    rw [rev_get (by omega), rev_get (by omega), hn]
    cases e1 : acc[n - 1 - k]? with
    | none => trivial
    | some e =>
      cases e2 : acc[n - 1 - u]? with
      | none => trivial
      | some f =>
        rw [e1, e2] at h1
        dsimp only at h1 ⊢
        cases hk : e.kd <;> rw [hk] at h1 <;> dsimp only at h1 ⊢
        · exact h1
        · exact fun hlt => h1 (by rw [Nat.blt_eq]; exact hlt)
theorem DR.startS {id : Nat} (wr : List Bool) (hm : P.follows .mixedOrders = true) (st : staticM l l.toArray wr = true) (h : staticM l l.toArray wr = true → DR P N l t H Q l t H []) : AX P N (.region id l.toArray true) t H Q := DX.startS wr hm st h
theorem DR.nil {wr : List Bool} (n : Nat) (ps : List (Nat × Nat)) (st : staticM l₀ l₀.toArray wr = true) (hc : (leAll (acc.reverse.map (·.kd.isWrite)) wr && Nat.beq acc.length n && (ps.all fun p => Nat.blt p.1 n && Nat.blt p.2 n) && ordPsM l₀ (acc.reverse.map fun e => e.kd.isWrite) (acc.reverse.map fun e => e.kd.isRA) ps) = true)
    (hp : pairsAllR acc n ps) (h : Q .normal t H) : DR P N l₀ t₀ H₀ Q [] t H acc := by
  simp only [Bool.and_eq_true] at hc
  obtain ⟨⟨⟨h1, h2⟩, h3⟩, h4⟩ := hc
  exact DX.nilS st h1 (dyn_pairsM ps h4 (pairsR_ok (Nat.eq_of_beq_eq_true h2) h3 hp)) h
theorem DR.p (hd : Nat.blt d N = true) (hs : noSel op = true) (h : PureOk P N ⟨some d, op, ty, pos, af, none⟩ (restr (Oper.looksAt l₀.toArray ⟨some d, op, ty, pos, af, none⟩) t) v)
    (k : DR P N l₀ t₀ H₀ Q l ((d, v) :: t) H (⟨.pure, v, H, H⟩ :: acc)) : DR P N l₀ t₀ H₀ Q (⟨some d, op, ty, pos, af, none⟩ :: l) t H acc := by
  unfold DR at *
  rw [List.reverse_cons] at k
  exact DX.p hd hs h k
theorem DR.pb {b : Bool} (hd : Nat.blt d N = true) (hs : noSel op = true) (h : PureOk P N ⟨some d, op, ty, pos, af, none⟩ (restr (Oper.looksAt l₀.toArray ⟨some d, op, ty, pos, af, none⟩) t) (.bool b))
    (kT : b = true → DR P N l₀ t₀ H₀ Q l ((d, .bool true) :: t) H (⟨.pure, .bool true, H, H⟩ :: acc)) (kF : b = false → DR P N l₀ t₀ H₀ Q l ((d, .bool false) :: t) H (⟨.pure, .bool false, H, H⟩ :: acc)) :
    DR P N l₀ t₀ H₀ Q (⟨some d, op, ty, pos, af, none⟩ :: l) t H acc := by
  unfold DR at *
  simp only [List.reverse_cons] at kT kF
  exact DX.pb hd hs h kT kF
theorem DR.gp {j e : Nat} {want : Bool} (hj : (l₀.toArray[j]?).bind (·.dst) = some e) (hb : eget (restr (Oper.looksAt l₀.toArray ⟨some d, op, ty, pos, af, some (j, want)⟩) t) e = some (.bool want)) (hd : Nat.blt d N = true) (hs : noSel op = true)
    (h : PureOk P N ⟨some d, op, ty, pos, af, some (j, want)⟩ (restr (Oper.looksAt l₀.toArray ⟨some d, op, ty, pos, af, some (j, want)⟩) t) v)
    (k : DR P N l₀ t₀ H₀ Q l ((d, v) :: t) H (⟨.pure, v, H, H⟩ :: acc)) : DR P N l₀ t₀ H₀ Q (⟨some d, op, ty, pos, af, some (j, want)⟩ :: l) t H acc := by
  unfold DR at *
  rw [List.reverse_cons] at k
  exact DX.gp hj hb hd hs h k
theorem DR.gpb {j e : Nat} {want b : Bool} (hj : (l₀.toArray[j]?).bind (·.dst) = some e) (hb : eget (restr (Oper.looksAt l₀.toArray ⟨some d, op, ty, pos, af, some (j, want)⟩) t) e = some (.bool want)) (hd : Nat.blt d N = true) (hs : noSel op = true)
    (h : PureOk P N ⟨some d, op, ty, pos, af, some (j, want)⟩ (restr (Oper.looksAt l₀.toArray ⟨some d, op, ty, pos, af, some (j, want)⟩) t) (.bool b))
    (kT : b = true → DR P N l₀ t₀ H₀ Q l ((d, .bool true) :: t) H (⟨.pure, .bool true, H, H⟩ :: acc)) (kF : b = false → DR P N l₀ t₀ H₀ Q l ((d, .bool false) :: t) H (⟨.pure, .bool false, H, H⟩ :: acc)) :
    DR P N l₀ t₀ H₀ Q (⟨some d, op, ty, pos, af, some (j, want)⟩ :: l) t H acc := by
  unfold DR at *
  simp only [List.reverse_cons] at kT kF
  exact DX.gpb hj hb hd hs h kT kF
theorem DR.gn {j e : Nat} {want : Bool} (hj : (l₀.toArray[j]?).bind (·.dst) = some e) (hb : eget (restr (Oper.looksAt l₀.toArray ⟨some d, op, ty, pos, af, some (j, want)⟩) t) e = some (.bool (!want))) (hd : Nat.blt d N = true) (hs : noSel op = true)
    (k : DR P N l₀ t₀ H₀ Q l ((d, undef) :: t) H (⟨.skip, undef, H, H⟩ :: acc)) : DR P N l₀ t₀ H₀ Q (⟨some d, op, ty, pos, af, some (j, want)⟩ :: l) t H acc := by
  unfold DR at *
  rw [List.reverse_cons] at k
  exact DX.gn hj hb hd hs k
theorem DR.gu {j e : Nat} {want : Bool} (hj : (l₀.toArray[j]?).bind (·.dst) = some e) (hb : eget (restr (Oper.looksAt l₀.toArray ⟨some d, op, ty, pos, af, some (j, want)⟩) t) e = some undef) (hd : Nat.blt d N = true) (hs : noSel op = true)
    (k : DR P N l₀ t₀ H₀ Q l ((d, undef) :: t) H (⟨.skip, undef, H, H⟩ :: acc)) : DR P N l₀ t₀ H₀ Q (⟨some d, op, ty, pos, af, some (j, want)⟩ :: l) t H acc := by
  unfold DR at *
  rw [List.reverse_cons] at k
  exact DX.gu hj hb hd hs k
theorem DR.r {cs : List (Nat × Nat × Value)} (hd : Nat.blt d N = true) (hs : noSel op = true) (h : ROk P N ⟨some d, op, ty, pos, af, none⟩ (restr (Oper.looksAt l₀.toArray ⟨some d, op, ty, pos, af, none⟩) t) cs v)
    (hc : ∀ c ∈ cs, hcell H c.1 c.2.1 = some c.2.2 ∧ Bel H.length c.2.2)
    (k : DR P N l₀ t₀ H₀ Q l ((d, v) :: t) H (⟨.read cs, v, H, H⟩ :: acc)) : DR P N l₀ t₀ H₀ Q (⟨some d, op, ty, pos, af, none⟩ :: l) t H acc := by
  unfold DR at *
  rw [List.reverse_cons] at k
  exact DX.r hd hs h hc k
theorem DR.gr {j e : Nat} {want : Bool} {cs : List (Nat × Nat × Value)} (hj : (l₀.toArray[j]?).bind (·.dst) = some e) (hb : eget (restr (Oper.looksAt l₀.toArray ⟨some d, op, ty, pos, af, some (j, want)⟩) t) e = some (.bool want)) (hd : Nat.blt d N = true) (hs : noSel op = true)
    (h : ROk P N ⟨some d, op, ty, pos, af, some (j, want)⟩ (restr (Oper.looksAt l₀.toArray ⟨some d, op, ty, pos, af, some (j, want)⟩) t) cs v)
    (hc : ∀ c ∈ cs, hcell H c.1 c.2.1 = some c.2.2 ∧ Bel H.length c.2.2)
    (k : DR P N l₀ t₀ H₀ Q l ((d, v) :: t) H (⟨.read cs, v, H, H⟩ :: acc)) : DR P N l₀ t₀ H₀ Q (⟨some d, op, ty, pos, af, some (j, want)⟩ :: l) t H acc := by
  unfold DR at *
  rw [List.reverse_cons] at k
  exact DX.gr hj hb hd hs h hc k
theorem DR.a {cells : List Value} {i : Nat} {H' : AHeap} (hd : Nat.blt d N = true) (hs : noSel op = true) (hi : H.length = i) (hH : H ++ [AObj.row false cells] = H') (h : AOk P N ⟨some d, op, ty, pos, af, none⟩ (restr (Oper.looksAt l₀.toArray ⟨some d, op, ty, pos, af, none⟩) t) cells i v)
    (k : DR P N l₀ t₀ H₀ Q l ((d, v) :: t) H' (⟨.alloc cells, v, H, H'⟩ :: acc)) : DR P N l₀ t₀ H₀ Q (⟨some d, op, ty, pos, af, none⟩ :: l) t H acc := by
  unfold DR at *
  rw [List.reverse_cons] at k
  exact DX.a hd hs hi hH h k
theorem DR.w {H' : AHeap} (hd : Nat.blt d N = true) (hs : noSel op = true) (h : OpOk P N ⟨some d, op, ty, pos, af, none⟩ (restr (Oper.looksAt l₀.toArray ⟨some d, op, ty, pos, af, none⟩) t) H v H') (hl : H.length ≤ H'.length)
    (k : DR P N l₀ t₀ H₀ Q l ((d, v) :: t) H' (⟨.write, v, H, H'⟩ :: acc)) : DR P N l₀ t₀ H₀ Q (⟨some d, op, ty, pos, af, none⟩ :: l) t H acc := by
  unfold DR at *
  rw [List.reverse_cons] at k
  exact DX.w hd hs h hl k
theorem DR.gw {j e : Nat} {want : Bool} {H' : AHeap} (hj : (l₀.toArray[j]?).bind (·.dst) = some e) (hb : eget (restr (Oper.looksAt l₀.toArray ⟨some d, op, ty, pos, af, some (j, want)⟩) t) e = some (.bool want)) (hd : Nat.blt d N = true) (hs : noSel op = true)
    (h : OpOk P N ⟨some d, op, ty, pos, af, some (j, want)⟩ (restr (Oper.looksAt l₀.toArray ⟨some d, op, ty, pos, af, some (j, want)⟩) t) H v H') (hl : H.length ≤ H'.length)
    (k : DR P N l₀ t₀ H₀ Q l ((d, v) :: t) H' (⟨.write, v, H, H'⟩ :: acc)) : DR P N l₀ t₀ H₀ Q (⟨some d, op, ty, pos, af, some (j, want)⟩ :: l) t H acc := by
  unfold DR at *
  rw [List.reverse_cons] at k
  exact DX.gw hj hb hd hs h hl k
theorem DR.s {H' : AHeap} (hs : noSel op = true) (h : OpOk P N ⟨none, op, ty, pos, af, none⟩ (restr (Oper.looksAt l₀.toArray ⟨none, op, ty, pos, af, none⟩) t) H v H') (hl : H.length ≤ H'.length)
    (k : DR P N l₀ t₀ H₀ Q l t H' (⟨.write, v, H, H'⟩ :: acc)) : DR P N l₀ t₀ H₀ Q (⟨none, op, ty, pos, af, none⟩ :: l) t H acc := by
  unfold DR at *
  rw [List.reverse_cons] at k
  exact DX.s hs h hl k
end dx
end Go.Proofs.YtdafmafigcljkaaGreat.Am
/-
  The entry, continued: arguments as slices that are read. No condition.
-/
namespace Go.Proofs.YtdafmafigcljkaaGreat.Am
open Go Go.RowKit
set_option linter.unusedVariables false
set_option linter.unusedSimpArgs false
section
variable {P : Program} {H : AHeap} {k : Nat}
theorem Vw.ofRow {i c n : Nat} {cs : List Value} (h : hget H i = .row true cs) : Vw H (some ⟨i, 0, none⟩) n c cs :=
  ⟨.inr ⟨i, 0, rfl, row_lt h⟩, fun _ => rfl, fun j v e => by show hcell H i (0 + j) = _; rw [Nat.zero_add]; exact row_cell h e⟩
end
end Go.Proofs.YtdafmafigcljkaaGreat.Am
/-
  Maps from numbers to truth values: made, written, counted. No condition.
-/
namespace Go.Proofs.YtdafmafigcljkaaGreat.Am
open Go Go.RowKit
set_option linter.unusedVariables false
set_option linter.unusedSimpArgs false
theorem mkE_len (es : List (Value × Value)) : (mkE es).size = es.length := by simp [mkE]
theorem mkE_get (es : List (Value × Value)) (i : Nat) : (mkE es)[i]? = (es[i]?).map fun e => { key := e.1, val := e.2, born := i } := by
  simp [mkE]
theorem mkE_push (es : List (Value × Value)) (k v : Value) : (mkE es).push { key := k, val := v, born := es.length } = mkE (es ++ [(k, v)]) := by
  apply Array.ext_getElem?
  intro i
  rw [mkE_get, Array.getElem?_push, mkE_len, mkE_get]
  by_cases h : i = es.length
  · subst h; simp
  · rw [if_neg h]
    rcases Nat.lt_or_ge i es.length with h1 | h1
    · rw [List.getElem?_append_left h1]
    · rw [List.getElem?_eq_none h1, List.getElem?_eq_none (by simp; omega)]
theorem mkE_modify (es : List (Value × Value)) (i : Nat) (f : MapEntry → MapEntry) (g : Value × Value → Value × Value) (h : ∀ e, es[i]? = some e → f { key := e.1, val := e.2, born := i } = { key := (g e).1, val := (g e).2, born := i }) :
    (mkE es).modify i f = mkE (es.modify i g) := by
  apply Array.ext_getElem?
  intro j
  rw [mkE_get, Array.getElem?_modify, mkE_get, List.getElem?_modify]
  by_cases e : i = j
  · subst e
    cases he : es[i]? with
    | none => simp
    | some x => simp [h x he]
  · simp [e]
def wmap (w : World) (b : Nat) (es : List (Value × Value)) : World := { w with heap := w.heap.setIfInBounds b (.map (mkE es) es.length) }
theorem cell_map {w : World} {b o : Nat} {es : Array MapEntry} {c : Nat} (h : w.heap[b]? = some (.map es c)) : w.cell? ⟨b, o, none⟩ = none := by simp [World.cell?, h]
theorem frozen_map {w : World} {b o : Nat} {es : Array MapEntry} {c : Nat} (h : w.heap[b]? = some (.map es c)) : w.frozen? ⟨b, o, none⟩ = false := by simp [World.frozen?, h]
theorem map_ok {W : World} {φ : Phi} {H : AHeap} {w : World} {i : Nat} {L : Loc} {es es2 : List (Value × Value)} (hs : Sim W φ H w) (hL : φ i = some L) (hi0 : hget H i = .map es) (hf : ∀ e ∈ es2, Flat e.1 ∧ Flat e.2) :
    Sim W φ (H.set i (.map es2)) (wmap w L.block es2) ∧ Step φ H w φ (H.set i (.map es2)) (wmap w L.block es2) := by
  have hlt := hs.dom i L hL
  have hobj := hs.obj i L hL
  rw [hi0] at hobj
  have hB := hobj.own.1
  have hb := hobj.holds
  have hmap : (hget H i).isMap = true := by rw [hi0]; rfl
  have hsame : hget (H.set i (.map es2)) i = .map es2 := hget_set_same _ hlt
  have hset := MapKept.heap_set (o' := .map (mkE es2) es2.length) hb
  have hsz : (wmap w L.block es2).heap.size = w.heap.size := by simp [wmap]
  have hmm : ∀ j, (hget (H.set i (.map es2)) j).isMap = (hget H j).isMap := fun j => by
    by_cases hj : i = j
    · subst hj; rw [hsame, hi0]; rfl
    · rw [hget_set_other _ hj]
  have hrr : ∀ j, (hget (H.set i (.map es2)) j).isRow = (hget H j).isRow := fun j => by
    by_cases hj : i = j
    · subst hj; rw [hsame, hi0]; rfl
    · rw [hget_set_other _ hj]
  have hcell : ∀ b o, (wmap w L.block es2).cell? ⟨b, o, none⟩ = w.cell? ⟨b, o, none⟩ := fun b o => by
    by_cases e : b = L.block
    · subst e; rw [cell_map hb, cell_map hset.1]
    · exact World.cell?_of_block (hset.2 _ e)
  have hfroz : ∀ b o, (wmap w L.block es2).frozen? ⟨b, o, none⟩ = w.frozen? ⟨b, o, none⟩ := fun b o => by
    by_cases e : b = L.block
    · subst e; rw [frozen_map hb, frozen_map hset.1]
    · exact World.frozen?_of_block (hset.2 _ e)
  refine ⟨⟨fun j M e => by simpa using hs.dom j M e, ?_, fun j k M K hjk ej ek hj hk => hs.disj j k M K hjk ej ek (by rw [← hrr]; exact hj) (by rw [← hrr]; exact hk), fun j k M K hjk ej ek hj hk => hs.mdisj j k M K hjk ej ek (by rw [← hmm]; exact hj) (by rw [← hmm]; exact hk), ?_⟩,
    ⟨fun _ _ => rfl, by simp, by rw [hsz]; exact Nat.le_refl _, fun b o _ _ => hcell b o, fun b o _ _ => hfroz b o, ?_⟩⟩
  · intro j M e
    by_cases hj : i = j
    · subst hj
      rw [hL] at e
      obtain rfl := Option.some.inj e
      rw [hsame]
      exact ⟨hobj.off, hobj.ext, ⟨hB, by rw [hsz]; exact hobj.own.2⟩, hf, hset.1⟩
    · rw [hget_set_other _ hj]
      have hoj := hs.obj j M e
      cases ho : hget H j with
      | dead => trivial
      | row ro cells =>
        rw [ho] at hoj
        refine ⟨hoj.fits, fun k c hc => ?_, hoj.old, fun hr => ⟨(hoj.own hr).1, by rw [hsz]; exact (hoj.own hr).2⟩, fun hr k hk => ?_⟩
        · rw [hcell]; exact hoj.reads k c hc
        · rw [hfroz, hcell]; exact hoj.there hr k hk
      | map es' =>
        rw [ho] at hoj
        have hne := hs.mdisj i j L M hj hL e hmap (by rw [ho]; rfl)
        exact ⟨hoj.off, hoj.ext, ⟨hoj.own.1, by rw [hsz]; exact hoj.own.2⟩, hoj.flat, by rw [show (wmap w L.block es2).heap[M.block]? = w.heap[M.block]? from hset.2 _ hne.symm]; exact hoj.holds⟩
  · have hbl := hs.base.below
    exact ⟨⟨hbl.os, hbl.tape, hbl.output, by rw [hsz]; exact hbl.size, fun k hk => by
      rw [show (wmap w L.block es2).heap[k]? = w.heap[k]? from hset.2 _ (by omega)]; exact hbl.block k hk⟩, hs.base.ok⟩
  · rintro b o hb' ⟨j, M, e, hr, r⟩
    exact ⟨j, M, e, by rw [← hrr]; exact hr, r⟩
def ib (l : List (Int × Bool)) : List (Value × Value) := l.map fun e => (.int .i64 e.1, .bool e.2)
def mf (k : Int) : List (Int × Bool) → Nat → Option (Nat × Bool)
  | [], _ => none
  | e :: l, i => if k = e.1 then some (i, e.2) else mf k l (i + 1)
def mi (l : List (Int × Bool)) (k : Int) : Nat := ((mf k l 0).map (·.1)).getD l.length
def mb (l : List (Int × Bool)) (k : Int) : Bool := ((mf k l 0).map (·.2)).getD false
def ment (l : List (Int × Bool)) (k : Int) : List (Int × Bool) := if (mf k l 0).isSome then l else l ++ [(k, false)]
def mst (l : List (Int × Bool)) (i : Nat) (b : Bool) : List (Int × Bool) := l.modify i fun e => (e.1, b)
theorem mf_some {k : Int} {b : Bool} : ∀ {l : List (Int × Bool)} {i j : Nat}, mf k l i = some (j, b) → i ≤ j ∧ l[j - i]? = some (k, b)
  | [], _, _, h => by cases h
  | e :: l, i, j, h => by
    unfold mf at h
    split at h
    · rename_i hk
      simp only [Option.some.injEq, Prod.mk.injEq] at h
      obtain ⟨rfl, rfl⟩ := h
      simp [hk]
    · have := mf_some h
      refine ⟨by omega, ?_⟩
      rw [show j - i = (j - (i + 1)) + 1 by omega, List.getElem?_cons_succ]; exact this.2
theorem mi_lt (l : List (Int × Bool)) (k : Int) : mi l k < (ment l k).length := by
  unfold mi ment
  cases h : mf k l 0 with
  | none => simp
  | some x =>
    obtain ⟨j, b⟩ := x
    have := (List.getElem?_eq_some_iff.1 (mf_some h).2).1
    simp; simpa using this
theorem ib_flat (l : List (Int × Bool)) : ∀ e ∈ ib l, Flat e.1 ∧ Flat e.2 := by
  intro e he
  obtain ⟨x, _, rfl⟩ := List.mem_map.1 he
  exact ⟨.int _ _, .bool _⟩
theorem findNow_ib (k : Int) : ∀ (l : List (Int × Bool)) (es : List MapEntry) (i : Nat), es.map (fun e => (e.key, e.val)) = ib l → Instr.findNow (.int .i64) (.int .i64 k) es i = some ((mf k l i).map fun x => (x.1, .bool x.2))
  | [], es, i, h => by
    cases es with
    | nil => rfl
    | cons e es => cases h
  | x :: l, es, i, h => by
    cases es with
    | nil => cases h
    | cons e es =>
      simp only [ib, List.map_cons, List.cons.injEq, Prod.mk.injEq] at h
      obtain ⟨⟨h1, h2⟩, h3⟩ := h
      have ih := findNow_ib k l es (i + 1) h3
      unfold mf
      by_cases hk : k = x.1
      · simp [Instr.findNow, Instr.sameNow, h1, h2, hk]
      · have hk' : (k == x.1) = false := by simpa using hk
        simp [Instr.findNow, Instr.sameNow, h1, hk, hk', ih]
theorem mkE_kv (es : List (Value × Value)) : (mkE es).toList.map (fun e => (e.key, e.val)) = es := by
  apply List.ext_getElem?
  intro i
  simp [mkE]
  cases es[i]? <;> rfl
theorem V.inv_map {φ : Phi} {r : Nat} {u : Value} (h : V φ (.map (some r)) u) : ∃ L, φ r = some L ∧ u = .map (some L.block) := by
  cases h with
  | map _ L h => exact ⟨L, h, rfl⟩
section maps
variable {P : Program} {N : Nat} {t : Env} {H : AHeap} {d : Option Tmp} {ty : TypeId} {pos : String} {af : Array Edge} {g : Option (Nat × Bool)}
theorem map_at {W : World} {φ : Phi} {w : World} (hs : Sim W φ H w) {r : Nat} {L : Loc} {es : List (Value × Value)} (hL : φ r = some L) (hi : hget H r = .map es) : w.heap[L.block]? = some (.map (mkE es) es.length) := by
  have := hs.obj r L hL
  rw [hi] at this
  exact this.holds
theorem m_mapEntry {T kt et : TypeId} {x y : Operand} {r : Nat} {k : Int} {l : List (Int × Bool)} (hT : P.underlying T = some (.map kt et)) (hk : P.underlying kt = some (.int .i64)) (hz : ∀ w, (zeroValue et).run P w = .ok (.bool false) w)
    (hx : aEv t x = some (.map (some r))) (hy : aEv t y = some (.int .i64 k)) (hi : hget H r = .map (ib l)) :
    OpOk P N ⟨d, .mapEntry T x y, ty, pos, af, g⟩ t H (.tuple #[.bool (mb l k), .int .i64 (mi l k)]) (H.set r (.map (ib (ment l k)))) := by
  intro W φ w a hs he
  obtain ⟨L, hL, ex⟩ := (ev_ok he hx).inv_map
  have ey := ev_int he hy
  have hb := map_at hs hL hi
  have hf := findNow_ib k l (mkE (ib l)).toList 0 (mkE_kv _)
  have hkey : MapKept.IsKey (.int .i64) (.int .i64 k) := rfl
  obtain ⟨s1, s2⟩ := map_ok (es2 := ib (ment l k)) hs hL hi (ib_flat _)
  have hv : V φ (.tuple #[.bool (mb l k), .int .i64 (mi l k)]) (.tuple #[.bool (mb l k), .int .i64 (mi l k)]) := V.flat (.tuple _ fun i v h => by
    match i, h with
    | 0, h => simp at h; subst h; exact .bool _
    | 1, h => simp at h; subst h; exact .int _ _
    | i + 2, h => simp at h)
  refine Does.of_value (v := .tuple #[.bool (mb l k), .int .i64 (mi l k)]) (w' := wmap w L.block (ib (ment l k))) ?_ ⟨φ, s1, hv, s2⟩
  cases hm : mf k l 0 with
  | none =>
    rw [hm] at hf
    have e1 : ment l k = l ++ [(k, false)] := by simp [ment, hm]
    have e2 : mi l k = l.length := by simp [mi, hm]
    have e3 : mb l k = false := by simp [mb, hm]
    have e4 : ib (ment l k) = ib l ++ [(.int .i64 k, .bool false)] := by rw [e1]; simp [ib]
    have e5 : (ib l).length = l.length := by simp [ib]
    simp only [execOp, ex, ey, Instr.mapEntry, Sem.run_bind, run_underlying hT, MapKept.run_getObj_map hb, MapKept.run_checkKey hk hkey, MapKept.run_findKey hk hf, Option.map_none, hz, MapKept.run_setObj_map _ hb, Result.andThen]
    simp [e2, e3, wmap, e4, ← mkE_push, e5, goInt]
  | some x =>
    obtain ⟨j, b⟩ := x
    rw [hm] at hf
    have hj := (mf_some hm).2
    have e1 : ment l k = l := by simp [ment, hm]
    have e2 : mi l k = j := by simp [mi, hm]
    have e3 : mb l k = b := by simp [mb, hm]
    have hj' : (ib l)[j]? = some (.int .i64 k, .bool b) := by
      have h0 : l[j]? = some (k, b) := by simpa using hj
      unfold ib
      rw [List.getElem?_map, h0]; rfl
    have e6 : (mkE (ib l))[j]? = some { key := .int .i64 k, val := .bool b, born := j } := by rw [mkE_get, hj']; rfl
    have e7 : (mkE (ib l)).modify j (fun e => { e with key := .int .i64 k }) = mkE (ib l) := by
      rw [mkE_modify (g := id) _ _ _ (fun e he => by rw [hj'] at he; obtain rfl := Option.some.inj he; rfl)]
      congr 1
      apply List.ext_getElem?
      intro i
      rw [List.getElem?_modify]; cases (ib l)[i]? <;> simp
    simp only [execOp, ex, ey, Instr.mapEntry, Sem.run_bind, run_underlying hT, MapKept.run_getObj_map hb, MapKept.run_checkKey hk hkey, MapKept.run_findKey hk hf, Option.map_some, e6, Option.getD_some, MapKept.run_keyThatStays hkey, MapKept.run_setObj_map _ hb, Result.andThen, e7]
    simp [e2, e3, wmap, e1, goInt]
theorem m_entryStore {T : TypeId} {x y z : Operand} {r i : Nat} {b : Bool} {l : List (Int × Bool)}
    (hx : aEv t x = some (.map (some r))) (hy : aEv t y = some (.int .i64 i)) (hz : aEv t z = some (.bool b)) (hi : hget H r = .map (ib l)) (hlt : i < l.length) :
    OpOk P N ⟨d, .entryStore T x y z, ty, pos, af, g⟩ t H undef (H.set r (.map (ib (mst l i b)))) := by
  intro W φ w a hs he
  obtain ⟨L, hL, ex⟩ := (ev_ok he hx).inv_map
  have ey := ev_int he hy
  have ez := ev_bool he hz
  have hb := map_at hs hL hi
  obtain ⟨s1, s2⟩ := map_ok (es2 := ib (mst l i b)) hs hL hi (ib_flat _)
  have e5 : (ib l).length = l.length := by simp [ib]
  have e6 : (ib (mst l i b)).length = (ib l).length := by simp [ib, mst]
  have hfi : ∀ p : MapEntry → Bool, (∀ e, p e = decide (e.born = i)) → (mkE (ib l)).findIdx? p = some i := fun p hp => by
    rw [Array.findIdx?_eq_some_iff_getElem]
    refine ⟨by rw [mkE_len, e5]; exact hlt, ?_, fun j hj => ?_⟩
    · have := mkE_get (ib l) i
      rw [Array.getElem?_eq_getElem (by rw [mkE_len, e5]; exact hlt), List.getElem?_eq_getElem (by omega)] at this
      rw [Option.some.inj this, hp]; simp
    · have := mkE_get (ib l) j
      rw [Array.getElem?_eq_getElem (by rw [mkE_len, e5]; omega), List.getElem?_eq_getElem (by omega)] at this
      rw [Option.some.inj this, hp]; simp; omega
  have e7 : (mkE (ib l)).modify i (fun e => { e with val := .bool b }) = mkE (ib (mst l i b)) := by
    rw [mkE_modify (g := fun e => (e.1, .bool b)) _ _ _ (fun e he => rfl)]
    congr 1
    apply List.ext_getElem?
    intro j
    simp only [ib, mst, List.getElem?_map, List.getElem?_modify]
    by_cases h : i = j
    · subst h; cases l[i]? <;> simp
    · simp [h]
  refine Does.of_skip (w' := wmap w L.block (ib (mst l i b))) ?_ ⟨φ, s1, V.flat (.tuple _ (fun i v h => by simp at h)), s2⟩
  simp only [execOp, ex, ey, ez, Instr.entryStore, Sem.run_bind, MapKept.run_getObj_map hb, Result.andThen, asInt, asIntOf, Sem.run_pure]
  rw [hfi _ (fun e => by rw [Bool.eq_iff_iff]; simp; omega)]
  simp only [MapKept.run_setObj_map _ hb, e7]
  simp [wmap, e6]
theorem m_lenMap {T kt et : TypeId} {x : Operand} {r : Nat} {l : List (Int × Bool)} (hT : P.underlying T = some (.map kt et)) (hx : aEv t x = some (.map (some r))) (hi : hget H r = .map (ib l)) :
    OpOk P N ⟨d, .call { callee := .builtin .len, args := #[x], argTypes := #[T] }, ty, pos, af, g⟩ t H (.int .i64 l.length) H := by
  intro W φ w a hs he
  obtain ⟨L, hL, ex⟩ := (ev_ok he hx).inv_map
  have hb := map_at hs hL hi
  refine Does.of_value (v := .int .i64 l.length) (w' := w) ?_ ⟨φ, hs, .int _ _, Step.refl _ _ _⟩
  simp [execOp, resolve, invoke, builtin, Builtin.len_, ex, run_underlying hT, MapKept.run_getObj_map hb, Result.andThen, goInt, mkE_len, ib]
theorem mapnew_ok {W : World} {φ : Phi} {w : World} (hs : Sim W φ H w) :
    ∃ φ', Sim W φ' (H ++ [.map []]) (w.alloc (.map #[] 0)) ∧ Step φ H w φ' (H ++ [.map []]) (w.alloc (.map #[] 0)) ∧ φ' H.length = some ⟨w.heap.size, 0, 1⟩ := by
  have hfresh : φ H.length = none := by
    cases e : φ H.length with
    | none => rfl
    | some L => exact absurd (hs.dom _ _ e) (Nat.lt_irrefl _)
  let φ' : Phi := fun i => if i = H.length then some ⟨w.heap.size, 0, 1⟩ else φ i
  have hm : ∀ i L, φ i = some L → φ' i = some L := fun i L e => by
    have : i ≠ H.length := fun he => by rw [he, hfresh] at e; cases e
    simp [φ', this, e]
  have hnew : φ' H.length = some ⟨w.heap.size, 0, 1⟩ := by simp [φ']
  have hother : ∀ i, i ≠ H.length → φ' i = φ i := fun i hi => by simp [φ', hi]
  have hold : ∀ (b o : Nat), b < w.heap.size → (w.alloc (.map #[] 0)).cell? ⟨b, o, none⟩ = w.cell? ⟨b, o, none⟩ := fun b o hb => World.cell?_alloc_lt _ _ _ hb
  have holdf : ∀ (b o : Nat), b < w.heap.size → (w.alloc (.map #[] 0)).frozen? ⟨b, o, none⟩ = w.frozen? ⟨b, o, none⟩ := fun b o hb => World.frozen?_alloc_old _ _ _ (Nat.ne_of_lt hb)
  have hmine : ∀ i L, φ i = some L → (hget H i).isMap = true → L.block < w.heap.size := fun i L e hm => by
    have := hs.obj i L e
    cases ho : hget H i with
    | dead => rw [ho] at hm; cases hm
    | row ro cells => rw [ho] at hm; cases ro <;> cases hm
    | map es => rw [ho] at this; exact this.own.2
  refine ⟨φ', ⟨?_, ?_, ?_, ?_, ?_⟩, ⟨?_, ?_, ?_, ?_, ?_, ?_⟩, hnew⟩
  · intro i L e
    by_cases hi : i = H.length
    · subst hi; simp
    · rw [hother i hi] at e; have := hs.dom i L e; simp; omega
  · intro i L e
    by_cases hi : i = H.length
    · subst hi
      rw [hnew] at e
      obtain rfl := Option.some.inj e
      rw [hget_len]
      exact ⟨rfl, rfl, ⟨hs.base.size, by simp⟩, (by intro e h; cases h), (MapKept.heap_alloc w _).1⟩
    · rw [hother i hi] at e
      have hlt := hs.dom i L e
      rw [hget_append_lt hlt]
      have := hs.obj i L e
      cases ho : hget H i with
      | dead => trivial
      | row ro cells' =>
        rw [ho] at this
        refine ⟨this.fits, ?_, this.old, fun hr => ⟨(this.own hr).1, by have := (this.own hr).2; simp; omega⟩, fun hr j hj => ?_⟩
        · intro j c hc
          obtain ⟨c', h1, h2⟩ := this.reads j c hc
          exact ⟨c', by rw [hold _ _ (World.block_lt_of_cell? _ _ h1)]; exact h1, h2.mono hm⟩
        · rw [hold _ _ (this.own hr).2, holdf _ _ (this.own hr).2]; exact this.there hr j hj
      | map es =>
        rw [ho] at this
        exact ⟨this.off, this.ext, ⟨this.own.1, by have := this.own.2; simp; omega⟩, this.flat, by rw [(MapKept.heap_alloc w _).2 _ this.own.2]; exact this.holds⟩
  · intro i j L M hij ei ej hi hj
    have h1 : i ≠ H.length := fun h => by subst h; rw [hget_len] at hi; cases hi
    have h2 : j ≠ H.length := fun h => by subst h; rw [hget_len] at hj; cases hj
    rw [hother i h1] at ei; rw [hother j h2] at ej
    rw [hget_append_lt (hs.dom i L ei)] at hi; rw [hget_append_lt (hs.dom j M ej)] at hj
    exact hs.disj i j L M hij ei ej hi hj
  · intro i j L M hij ei ej hi hj
    have new : ∀ k K, k ≠ H.length → φ' k = some K → (hget (H ++ [AObj.map []]) k).isMap = true → K.block < w.heap.size := fun k K hk ek hk' => by
      rw [hother k hk] at ek
      rw [hget_append_lt (hs.dom k K ek)] at hk'
      exact hmine k K ek hk'
    by_cases h1 : i = H.length
    · subst h1
      rw [hnew] at ei; obtain rfl := Option.some.inj ei
      have := new j M (fun h => hij h.symm) ej hj
      show w.heap.size ≠ M.block
      omega
    · by_cases h2 : j = H.length
      · subst h2
        rw [hnew] at ej; obtain rfl := Option.some.inj ej
        have := new i L h1 ei hi
        show L.block ≠ w.heap.size
        omega
      · rw [hother i h1] at ei; rw [hother j h2] at ej
        rw [hget_append_lt (hs.dom i L ei)] at hi; rw [hget_append_lt (hs.dom j M ej)] at hj
        exact hs.mdisj i j L M hij ei ej hi hj
  · exact hs.base.alloc hs.base.size _
  · intro i hi; exact hother i (Nat.ne_of_lt hi)
  · simp
  · simp
  · intro b o hb _; exact hold b o hb
  · intro b o hb _; exact holdf b o hb
  · rintro b o hb ⟨i, L, e, hr, h1, h2, h3⟩
    by_cases hi : i = H.length
    · subst hi; rw [hget_len] at hr; cases hr
    · rw [hother i hi] at e
      rw [hget_append_lt (hs.dom i L e)] at hr
      exact ⟨i, L, e, hr, h1, h2, h3⟩
theorem a_make1 {T E : TypeId} {x y : Operand} {k j : IntKind} {n : Int} {by_ i : Nat} {z v : Value} {us : List Value} {ti : TypeInfo} (hT : P.underlying T = some (.slice E)) (hi : ∀ w, (typeInfo E).run P w = .ok ti w) (hm : ∀ w, (sizeOf E).run P w = .ok 1 w)
    (hz : ∀ w, (zeroValue E).run P w = .ok z w) (hzc : z.cells.toList = [v]) (hf : flat0 v = true) (hb : ti.bytes = by_) (hby : Nat.ble by_ 65536 = true) (hx : aEv t x = some (.int k n)) (hy : aEv t y = some (.int j n)) (hn : 0 ≤ n ∧ n ≤ 4294967296) (hus : us = List.replicate n.toNat v) :
    AOk P N ⟨d, .makeSlice T x y, ty, pos, af, g⟩ t us i (.slice (some ⟨i, 0, none⟩) n.toNat n.toNat) := by
  subst hus
  have e : n = (n.toNat : Int) := by omega
  rw [e] at hx hy
  have hb' := Nat.le_of_ble_eq_true hby
  have := a_makeSlice (N := N) (d := d) (ty := ty) (pos := pos) (af := af) (g := g) (i := i) hx hy hT hi hm hz (by rw [hzc]; intro c hc; rw [List.mem_singleton.1 hc]; exact hf) (by rw [← Array.length_toList, hzc]; rfl) hb (Nat.le_refl _) (Nat.le_trans (Nat.mul_le_mul (show n.toNat ≤ 4294967296 by omega) hb') (by decide)) (by omega) Nat.one_pos
  rw [hzc, flatten_single'] at this
  exact this
theorem s_makeMap {T : TypeId} {i : Nat} {H' : AHeap} (hi : H.length = i) (hH : H ++ [.map (ib [])] = H') : OpOk P N ⟨d, .makeMap T none, ty, pos, af, g⟩ t H (.map (some i)) H' := by
  subst hi; subst hH
  intro W φ w a hs he
  obtain ⟨φ', h1, h2, h3⟩ := mapnew_ok hs
  refine Does.of_value (v := .map (some w.heap.size)) (w' := w.alloc (.map #[] 0)) ?_ ⟨φ', h1, .map _ ⟨w.heap.size, 0, 1⟩ h3, h2⟩
  rfl
theorem s_mapEntry {T kt et : TypeId} {x y : Operand} {r : Nat} {k : Int} {l : List (Int × Bool)} {H' : AHeap} (hT : P.underlying T = some (.map kt et)) (hk : P.underlying kt = some (.int .i64)) (hz : ∀ w, (zeroValue et).run P w = .ok (.bool false) w)
    (hx : aEv t x = some (.map (some r))) (hy : aEv t y = some (.int .i64 k)) (hi : hget H r = .map (ib l)) (hH : H.set r (.map (ib (ment l k))) = H') :
    OpOk P N ⟨d, .mapEntry T x y, ty, pos, af, g⟩ t H (.tuple #[.bool (mb l k), .int .i64 (mi l k)]) H' := hH ▸ m_mapEntry hT hk hz hx hy hi
theorem s_entryStore {T : TypeId} {x y z : Operand} {r i : Nat} {b : Bool} {l : List (Int × Bool)} {H' : AHeap}
    (hx : aEv t x = some (.map (some r))) (hy : aEv t y = some (.int .i64 i)) (hz : aEv t z = some (.bool b)) (hi : hget H r = .map (ib l)) (hlt : i < l.length) (hH : H.set r (.map (ib (mst l i b))) = H') :
    OpOk P N ⟨d, .entryStore T x y z, ty, pos, af, g⟩ t H undef H' := hH ▸ m_entryStore hx hy hz hi hlt
end maps
end Go.Proofs.YtdafmafigcljkaaGreat.Am
/-
  Rows of tables that are held across a loop. No condition.
-/
namespace Go.Proofs.YtdafmafigcljkaaGreat.Am
open Go Go.RowKit
theorem Sb.len {p : Option Addr} {n m c k : Nat} (h : Sb p n c k) (e : n = m) : Sb p m c k := e ▸ h
theorem off0 {p : Option Addr} {i : Nat} (h : p = some ⟨i, 0, none⟩) (q : Nat) : off p + q = q := by subst h; exact Nat.zero_add q
theorem AX.cutS {P : Program} {N : Nat} {t : Env} {H : AHeap} {Q : Exit → Env → AHeap → Prop} {x : Code} (M : Env → AHeap → Prop) (h1 : AX P N x t H (aThen M Q)) (h2 : ∀ t' H', M t' H' → ∃ t2, Sub t2 t' ∧ Q .normal t2 H') : AX P N x t H Q := by
  obtain ⟨e, t1, H1, hq, hw⟩ := h1
  cases e with
  | normal =>
    obtain ⟨t2, hs2, hq2⟩ := h2 _ _ hq
    refine ⟨.normal, t2, H1, hq2, fun W φ₀ H₀ w₀ dfr φ w a hs he hst hdf => wp_mono (hw W φ₀ H₀ w₀ dfr φ w a hs he hst hdf) ?_⟩
    rintro ex a' w' ⟨hd, φ', t', H', s1, s2, s3, s4⟩
    obtain ⟨rfl, rfl, rfl⟩ := s4
    exact ⟨hd, φ', t2, H', s1, s2.sub hs2, s3, rfl, rfl, rfl⟩
  | _ => exact ⟨_, t1, H1, hq, hw⟩
variable {P : Program} {N : Nat} {t : Env} {H : AHeap} {d : Option Tmp} {ty : TypeId} {pos : String} {af : Array Edge} {g : Option (Nat × Bool)}
theorem s_storeO {T : TypeId} {x y : Operand} {i o q : Nat} {v : Value} {cs : List Value} {H' : AHeap} (he : o = q) (hn : ∀ w, (sizeOf T).run P w = .ok 1 w) (hx : aEv t x = some (.pointer (some ⟨i, o, none⟩))) (hy : aEv t y = some v) (hv : oneCell v = true)
    (hg : hget H i = .row false cs) (ho : q < cs.length) (hH : H.set i (.row false (cs.set q v)) = H') : OpOk P N ⟨d, .store T x y, ty, pos, af, g⟩ t H undef H' := by subst he; exact s_store hn hx hy hv hg ho hH
end Go.Proofs.YtdafmafigcljkaaGreat.Am
/-
  What a call of the library hands back in memory of its own, as the abstract machine has it. No condition.
-/
namespace Go.Proofs.YtdafmafigcljkaaGreat.Am
open Go Go.RowKit
set_option linter.unusedVariables false
set_option linter.unusedSimpArgs false
theorem mine_lt {W : World} {φ : Phi} {H : AHeap} {w : World} (hs : Sim W φ H w) (i : Nat) (L : Loc) (e : φ i = some L) (hm : (hget H i).isRow = true) : L.block < w.heap.size := by
  have := hs.obj i L e
  cases ho : hget H i with
  | dead => rw [ho] at hm; cases hm
  | row ro cells =>
    rw [ho] at this hm
    cases ro with
    | true => cases hm
    | false => exact (this.own rfl).2
  | map es => rw [ho] at hm; cases hm
theorem below_ok {W : World} {φ φ' : Phi} {H : AHeap} {w w' : World} (hs : Sim W φ H w) (hb : Below w.heap.size w w') (hm : ∀ i L, φ i = some L → φ' i = some L) {i : Nat} {L : Loc} (e : φ i = some L) : ObjOk W.heap.size φ' L (hget H i) w' := by
  have := hs.obj i L e
  cases ho : hget H i with
  | dead => trivial
  | row ro cells =>
    rw [ho] at this
    refine ⟨this.fits, ?_, this.old, fun hr => ⟨(this.own hr).1, by have := (this.own hr).2; have := hb.size; omega⟩, fun hr j hj => ?_⟩
    · intro j c hc
      obtain ⟨c', h1, h2⟩ := this.reads j c hc
      exact ⟨c', (hb.cell (p := ⟨L.block, L.off + j, none⟩) (World.block_lt_of_cell? _ _ h1)).trans h1, h2.mono hm⟩
    · rw [hb.cell (p := ⟨L.block, L.off + j, none⟩) (this.own hr).2, hb.frozen (p := ⟨L.block, L.off + j, none⟩) (this.own hr).2]; exact this.there hr j hj
  | map es =>
    rw [ho] at this
    exact ⟨this.off, this.ext, ⟨this.own.1, by have := this.own.2; have := hb.size; omega⟩, this.flat, by rw [hb.block _ this.own.2]; exact this.holds⟩
theorem same_ok {W : World} {φ : Phi} {H : AHeap} {w w' : World} (hs : Sim W φ H w) (hb : Below w.heap.size w w') : Sim W φ H w' ∧ Step φ H w φ H w' := by
  refine ⟨⟨hs.dom, fun i L e => below_ok hs hb (fun _ _ h => h) e, hs.disj, hs.mdisj, hs.base.trans (hb.mono hs.base.size)⟩, ⟨fun _ _ => rfl, Nat.le_refl _, hb.size, ?_, ?_, fun _ _ _ h => h⟩⟩
  · intro b o h _; exact hb.cell (p := ⟨b, o, none⟩) h
  · intro b o h _; exact hb.frozen (p := ⟨b, o, none⟩) h
theorem grown_ok {W : World} {φ : Phi} {H : AHeap} {w w' : World} (hs : Sim W φ H w) (hb : Below w.heap.size w w') {g ext : Nat} (hg : w.heap.size ≤ g) (hg' : g < w'.heap.size) (cells : List Value) (hlen : cells.length ≤ ext)
    (hv : ∀ (j : Nat) c, cells[j]? = some c → ∃ c', w'.cell? ⟨g, j, none⟩ = some c' ∧ V φ c c') (hrow : ∀ j, j < ext → (∃ u, w'.cell? ⟨g, j, none⟩ = some u) ∧ w'.frozen? ⟨g, j, none⟩ = false) :
    ∃ φ', Sim W φ' (H ++ [.row false cells]) w' ∧ Step φ H w φ' (H ++ [.row false cells]) w' ∧ φ' H.length = some ⟨g, 0, ext⟩ := by
  have hfresh : φ H.length = none := by
    cases e : φ H.length with
    | none => rfl
    | some L => exact absurd (hs.dom _ _ e) (Nat.lt_irrefl _)
  let φ' : Phi := fun i => if i = H.length then some ⟨g, 0, ext⟩ else φ i
  have hm : ∀ i L, φ i = some L → φ' i = some L := fun i L e => by
    have : i ≠ H.length := fun he => by rw [he, hfresh] at e; cases e
    simp [φ', this, e]
  have hnew : φ' H.length = some ⟨g, 0, ext⟩ := by simp [φ']
  have hother : ∀ i, i ≠ H.length → φ' i = φ i := fun i hi => by simp [φ', hi]
  have new : ∀ k K, k ≠ H.length → φ' k = some K → (hget (H ++ [AObj.row false cells]) k).isRow = true → K.block < w.heap.size := fun k K hk ek hk' => by
    rw [hother k hk] at ek
    rw [hget_append_lt (hs.dom k K ek)] at hk'
    exact mine_lt hs k K ek hk'
  refine ⟨φ', ⟨?_, ?_, ?_, ?_, ?_⟩, ⟨?_, ?_, ?_, ?_, ?_, ?_⟩, hnew⟩
  · intro i L e
    by_cases hi : i = H.length
    · subst hi; simp
    · rw [hother i hi] at e; have := hs.dom i L e; simp; omega
  · intro i L e
    by_cases hi : i = H.length
    · subst hi
      rw [hnew] at e
      obtain rfl := Option.some.inj e
      rw [hget_len]
      refine ⟨hlen, ?_, (by intro h; cases h), fun _ => ⟨Nat.le_trans hs.base.size hg, hg'⟩, fun _ j hj => by rw [Nat.zero_add]; exact hrow j hj⟩
      intro j c hc
      obtain ⟨c', h1, h2⟩ := hv j c hc
      exact ⟨c', by rw [Nat.zero_add]; exact h1, h2.mono hm⟩
    · rw [hother i hi] at e
      rw [hget_append_lt (hs.dom i L e)]
      exact below_ok hs hb hm e
  · intro i j L M hij ei ej hi hj
    by_cases h1 : i = H.length
    · subst h1
      rw [hnew] at ei; obtain rfl := Option.some.inj ei
      exact .inl (by have := new j M (fun h => hij h.symm) ej hj; simp; omega)
    · by_cases h2 : j = H.length
      · subst h2
        rw [hnew] at ej; obtain rfl := Option.some.inj ej
        exact .inl (by have := new i L h1 ei hi; simp; omega)
      · rw [hother i h1] at ei; rw [hother j h2] at ej
        rw [hget_append_lt (hs.dom i L ei)] at hi; rw [hget_append_lt (hs.dom j M ej)] at hj
        exact hs.disj i j L M hij ei ej hi hj
  · intro i j L M hij ei ej hi hj
    have h1 : i ≠ H.length := fun h => by subst h; rw [hget_len] at hi; cases hi
    have h2 : j ≠ H.length := fun h => by subst h; rw [hget_len] at hj; cases hj
    rw [hother i h1] at ei; rw [hother j h2] at ej
    rw [hget_append_lt (hs.dom i L ei)] at hi; rw [hget_append_lt (hs.dom j M ej)] at hj
    exact hs.mdisj i j L M hij ei ej hi hj
  · exact hs.base.trans (hb.mono hs.base.size)
  · intro i hi; exact hother i (Nat.ne_of_lt hi)
  · simp
  · exact hb.size
  · intro b o h _; exact hb.cell (p := ⟨b, o, none⟩) h
  · intro b o h _; exact hb.frozen (p := ⟨b, o, none⟩) h
  · rintro b o hb' ⟨i, L, e, hr, h1, h2, h3⟩
    by_cases hi : i = H.length
    · subst hi; rw [hnew] at e; obtain rfl := Option.some.inj e; simp at h1; omega
    · rw [hother i hi] at e
      rw [hget_append_lt (hs.dom i L e)] at hr
      exact ⟨i, L, e, hr, h1, h2, h3⟩
theorem fresh_call {P : Program} {f : FuncId} {args : List Value} {H : AHeap} {E : TypeId} (ss : List Int)
    (h : ∀ W φ w args', Sim W φ H w → VA φ args args' → Calls P f args' w fun e w' => ∃ v, e = .returned v ∧ w'.ownsRow w.heap.size E 1 v ss.length (ss.map (Value.int .i64)) ∧ (v = .slice none 0 0 ↔ ss = []) ∧ Below w.heap.size w w') :
    ∃ v G', ACall P f args H v G' ∧ ∃ (p : Option Addr) (c : Nat), v = .slice p ss.length c ∧ St [] H G' [oseg p (ints ss)] ∧ Sb p ss.length c 1 := by
  by_cases hss : ss = []
  · subst hss
    refine ⟨.slice none 0 0, H, ?_, none, 0, rfl, ?_, Sb.nil⟩
    · intro W φ w args' hs hva
      refine (h W φ w args' hs hva).mono ?_
      rintro e w' ⟨v, rfl, hrow, hnil, hb⟩
      obtain ⟨h1, h2⟩ := same_ok hs hb
      exact ⟨v, φ, rfl, h1, by rw [hnil.2 rfl]; exact .nilSlice, h2⟩
    · have := (St.nil H).nilseg 0; exact this
  · obtain ⟨G', i, hi, hG, S⟩ := (St.nil H).new (.row false (ints ss))
    refine ⟨.slice (some ⟨i, 0, none⟩) ss.length (capU + 1), G', ?_, some ⟨i, 0, none⟩, capU + 1, rfl, S, .inr ⟨i, rfl, .inl rfl⟩⟩
    intro W φ w args' hs hva
    refine (h W φ w args' hs hva).mono ?_
    rintro e w' ⟨v, rfl, hrow, hnil, hb⟩
    rcases hrow.2 with ⟨e0, _⟩ | ⟨g, cap, cur, rfl, hbase, hgb, r1, r2, r3, r4⟩
    · exact absurd (hnil.1 e0) hss
    · have hgl : g < w'.heap.size := (Array.getElem?_eq_some_iff.1 hgb).1
      have hcell : ∀ j, j < cur.size → w'.cell? ⟨g, j, none⟩ = cur[j]? := fun j hj => by simp [World.cell?, hgb]
      have hfr : ∀ j, w'.frozen? ⟨g, j, none⟩ = false := fun j => by simp [World.frozen?, hgb]
      have hv : ∀ (j : Nat) c, (ints ss)[j]? = some c → ∃ c', w'.cell? ⟨g, j, none⟩ = some c' ∧ V φ c c' := by
        intro j c hc
        have hj : j < ss.length := by have := (List.getElem?_eq_some_iff.1 hc).1; rw [ints_length] at this; exact this
        have e1 : cur.toList[j]? = (ss.map (Value.int .i64))[j]? := by
          rw [← r4, List.getElem?_take, if_pos (by omega)]
        refine ⟨c, ?_, ?_⟩
        · rw [hcell j (by omega), ← Array.getElem?_toList, e1]; exact hc
        · have : (ints ss)[j]? = some (.int .i64 ss[j]) := by simp [ints, hj]
          rw [this] at hc
          obtain rfl := Option.some.inj hc
          exact .int _ _
      obtain ⟨φ', h1, h2, h3⟩ := grown_ok hs hb hbase hgl (ints ss) (ext := cur.size) (by rw [ints_length]; omega) hv (fun j hj => ⟨⟨cur[j], by rw [hcell j hj]; exact Array.getElem?_eq_getElem hj⟩, hfr j⟩)
      rw [← hG, ← hi]
      refine ⟨_, φ', rfl, h1, ?_, h2⟩
      have hu : ∀ m, capU + 1 = capU + m → 0 + cap * m ≤ (Loc.mk g 0 cur.size).ext := by
        intro m hm
        have h9 : m = 1 := by omega
        subst h9
        show 0 + cap * 1 ≤ cur.size
        omega
      have := V.slice (φ := φ') H.length 0 ss.length (capU + 1) ⟨g, 0, cur.size⟩ cap h3 (fun h => absurd h (by omega)) hu r1
      simpa using this
end Go.Proofs.YtdafmafigcljkaaGreat.Am
/-
  A row that a call of the library has written anew, as the abstract machine has it. No condition.
-/
namespace Go.Proofs.YtdafmafigcljkaaGreat.Am
open Go Go.RowKit Go.Sort
set_option linter.unusedVariables false
set_option linter.unusedSimpArgs false
theorem put_wrote {w : World} {b q : Nat} {xs ys : List Int} (hH : Holds (Value.int .i64) w b q xs.toArray) (hl : ys.length = xs.length) (n : Nat) : Wrote w (putRow (Value.int .i64) (Sort.ahead w n) b q ys.toArray) b q (q + ys.length) := by
  have hH' : Holds (Value.int .i64) (Sort.ahead w n) b q xs.toArray := fun j hj => hH j hj
  refine ⟨?_, ?_, ?_, ?_, ?_, ?_⟩
  · intro b' o h
    rw [cell?_putRow_other]
    · rfl
    · simp only [List.size_toArray]
      by_cases e : b' = b
      · subst e
        by_cases h1 : q ≤ o
        · exact .inr (.inr (by have : ¬ o < q + ys.length := fun h2 => h ⟨rfl, h1, h2⟩
                               simpa using this))
        · exact .inr (.inl (by simpa using h1))
      · exact .inl e
  · intro o h1 h2
    have := cell?_putRow (Value.int .i64) (Sort.ahead w n) b q xs.toArray ys.toArray hH' (by simpa using hl) (o - q) (by simp; omega)
    rw [show q + (o - q) = o by omega] at this
    exact ⟨_, this⟩
  · intro b' o; rw [frozen?_putRow]; rfl
  · simp [Sort.ahead]
  · intro b' es c h
    show ((Sort.ahead w n).heap.modify b (onCells _))[b']? = _
    rw [Array.getElem?_modify]
    split
    · have : (Sort.ahead w n).heap[b']? = some (.map es c) := h
      rw [this]; rfl
    · exact h
  · intro B W hB hb
    refine ⟨hb.os, hb.tape, hb.output, by simpa [Sort.ahead] using hb.size, fun k hk => ?_⟩
    have : (putRow (Value.int .i64) (Sort.ahead w n) b q ys.toArray).heap[k]? = w.heap[k]? := by
      show ((Sort.ahead w n).heap.modify b (onCells _))[k]? = _
      rw [Array.getElem?_modify, if_neg (by omega)]; rfl
    rw [this]; exact hb.block k hk
theorem row_holds {W : World} {φ : Phi} {H : AHeap} {w : World} (hs : Sim W φ H w) {i : Nat} {L : Loc} (hL : φ i = some L) {xs : List Int} (hi : hget H i = .row false (ints xs)) : Holds (Value.int .i64) w L.block L.off xs.toArray := by
  have ho := hs.obj i L hL
  rw [hi] at ho
  intro j hj
  have hj' : j < xs.length := by simpa using hj
  have e : (ints xs)[j]? = some (.int .i64 xs[j]) := by simp [ints, hj']
  obtain ⟨c', h1, h2⟩ := ho.reads j _ e
  have hfit := ho.fits
  rw [ints_length] at hfit
  refine ⟨?_, (ho.there rfl j (by omega)).2⟩
  rw [h1]
  cases h2
  simp [hj']
theorem grow_below (w : World) (os : Array Obj) : Below w.heap.size w (grow w os) := ⟨rfl, rfl, rfl, by simp, fun k hk => heap_grow_old w os hk⟩
theorem put_ok {W : World} {φ : Phi} {H : AHeap} {w : World} (hs : Sim W φ H w) {i : Nat} {L : Loc} (hL : φ i = some L) {xs ys : List Int} (hi : hget H i = .row false (ints xs)) (hl : ys.length = xs.length) (n : Nat) (os : Array Obj) :
    Sim W φ (H.set i (.row false (ints ys))) (grow (putRow (Value.int .i64) (Sort.ahead w n) L.block L.off ys.toArray) os) ∧ Step φ H w φ (H.set i (.row false (ints ys))) (grow (putRow (Value.int .i64) (Sort.ahead w n) L.block L.off ys.toArray) os) := by
  have hH := row_holds hs hL hi
  have ho := hs.obj i L hL
  rw [hi] at ho
  have hfit := ho.fits
  rw [ints_length] at hfit
  have hH' : Holds (Value.int .i64) (Sort.ahead w n) L.block L.off xs.toArray := fun j hj => hH j hj
  obtain ⟨h1, h2⟩ := rewrite_ok (cs2 := ints ys) hs hL hi (put_wrote hH hl n) (Nat.le_refl _) (by omega) (by rw [ints_length]; omega) (by
    intro j c hc
    have hj : j < ys.length := by have := (List.getElem?_eq_some_iff.1 hc).1; rw [ints_length] at this; exact this
    have e : (ints ys)[j]? = some (.int .i64 ys[j]) := by simp [ints, hj]
    rw [e] at hc
    obtain rfl := Option.some.inj hc
    refine ⟨_, cell?_putRow (Value.int .i64) (Sort.ahead w n) L.block L.off xs.toArray ys.toArray hH' (by simpa using hl) j (by simpa using hj), ?_⟩
    have : ys.toArray[j]! = ys[j] := by simp [hj]
    rw [this]; exact .int _ _)
  obtain ⟨h3, h4⟩ := same_ok h1 (grow_below _ os)
  exact ⟨h3, h2.trans h4⟩
end Go.Proofs.YtdafmafigcljkaaGreat.Am
/-
  A call of the library that writes a row of one's own anew, as the abstract machine has it. No condition.
-/
namespace Go.Proofs.YtdafmafigcljkaaGreat.Am
open Go Go.RowKit Go.Sort
set_option linter.unusedVariables false
set_option linter.unusedSimpArgs false
end Go.Proofs.YtdafmafigcljkaaGreat.Am
/-
  s[lo:] of a slice of arrays that is read, as the abstract machine has it. No condition.
-/
namespace Go.Proofs.YtdafmafigcljkaaGreat.Am
open Go Go.RowKit
set_option linter.unusedVariables false
set_option linter.unusedSimpArgs false
section pure
variable {P : Program} {N : Nat} {t : Env} {d : Option Tmp} {ty : TypeId} {pos : String} {af : Array Edge} {g : Option (Nat × Bool)}
end pure
theorem z_le {z : Int} {n : Nat} (h : z ≤ ((n : Nat) : Int)) : z.toNat ≤ n := by omega
theorem Sb.cu {p : Option Addr} {n c m : Nat} (h : Sb p n c m) : c < capU ∨ c = capU + m := by
  rcases h with ⟨_, _, rfl⟩ | ⟨i, _, h | ⟨_, h⟩⟩
  · exact .inl (by unfold capU; omega)
  · exact .inr h
  · exact .inl h
end Go.Proofs.YtdafmafigcljkaaGreat.Am
/-
  Short names for the steps that are printed most. No condition.
-/
namespace Go.Proofs.YtdafmafigcljkaaGreat.Am
open Go
section
variable {P : Program} {N : Nat} {ops : Array Oper} {t : Env} {H : AHeap} {Q : Exit → Env → AHeap → Prop}
theorem AO.m {d : Nat} {x : Operand} {ty : TypeId} {pos : String} {af : Array Edge} {rest : List Oper} {v : Value} (hd : Nat.blt d N = true) (hx : aEv t x = some v) (hr : AO P N ops rest ((d, v) :: t) H Q) :
    AO P N ops (⟨some d, .move x, ty, pos, af, none⟩ :: rest) t H Q := AO.p hd (p_move hx) hr
theorem AO.a {d : Nat} {x : Operand} {ty : TypeId} {pos : String} {af : Array Edge} {rest : List Oper} {v : Value} (hd : Nat.blt d N = true) (hx : aEv t x = some v) (hr : AO P N ops rest ((d, v) :: t) H Q) :
    AO P N ops (⟨some d, .assign x, ty, pos, af, none⟩ :: rest) t H Q := AO.p hd (p_assign hx) hr
theorem AX.sr {id : Nat} {l : List Oper} {y : Code} (h : AO P N l.toArray l t H (aThen (fun t' H' => AX P N y t' H' Q) Q)) : AX P N (.seq (.region id l.toArray false) y) t H Q := AX.seq (AX.region h)
end
section
variable {t' t : Env} {a b c d e f g h : Nat} {i j k l m n o p : Value}
theorem Sub.k1 (h1 : eget t a = some i) (hs : Sub t' t) : Sub ((a, i) :: t') t := Sub.cons h1 hs
theorem Sub.k2 (h1 : eget t a = some i) (h2 : eget t b = some j) (hs : Sub t' t) : Sub ((a, i) :: (b, j) :: t') t := .cons h1 (.cons h2 hs)
theorem Sub.k4 (h1 : eget t a = some i) (h2 : eget t b = some j) (h3 : eget t c = some k) (h4 : eget t d = some l) (hs : Sub t' t) : Sub ((a, i) :: (b, j) :: (c, k) :: (d, l) :: t') t := .k2 h1 h2 (.k2 h3 h4 hs)
theorem Sub.k8 (h1 : eget t a = some i) (h2 : eget t b = some j) (h3 : eget t c = some k) (h4 : eget t d = some l) (h5 : eget t e = some m) (h6 : eget t f = some n) (h7 : eget t g = some o) (h8 : eget t h = some p) (hs : Sub t' t) : Sub ((a, i) :: (b, j) :: (c, k) :: (d, l) :: (e, m) :: (f, n) :: (g, o) :: (h, p) :: t') t := .k4 h1 h2 h3 h4 (.k4 h5 h6 h7 h8 hs)
end
end Go.Proofs.YtdafmafigcljkaaGreat.Am
