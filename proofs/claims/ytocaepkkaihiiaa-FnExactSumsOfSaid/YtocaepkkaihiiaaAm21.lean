/-
  More rules in the shape in which the second program prints them: nil, slices of slices made and written. No condition.
-/
import Derived.Test.YtocaepkkaihiiaaAm20
namespace Go.Proofs.Ytocaepkkaihiiaa.Am
open Go Go.RowKit
set_option linter.unusedVariables false
set_option linter.unusedSimpArgs false

section rules
variable {P : Program} {N : Nat} {t : Env} {H : AHeap} {d : Option Tmp} {ty : TypeId} {pos : String} {af : Array Edge} {g : Option (Nat × Bool)}
theorem equalIn_sl {xT E : TypeId} (hT : P.underlying xT = some (.slice E)) (e : Nat) (a b : Option Addr) (n c n' c' : Nat) (w : World) (h : a = none ∨ b = none) : (Op.equalIn (e + 1) xT (.slice a n c) (.slice b n' c')).run P w = .ok (a.isNone && b.isNone) w := by
  cases a with
  | none => simp [Op.equalIn, run_underlying hT]
  | some a =>
    rcases h with h | rfl
    · cases h
    · simp [Op.equalIn, run_underlying hT]
theorem equal_sl {xT E : TypeId} (hT : P.underlying xT = some (.slice E)) (a b : Option Addr) (n c n' c' : Nat) (w : World) (h : a = none ∨ b = none) : (Op.equal xT (.slice a n c) (.slice b n' c')).run P w = .ok (a.isNone && b.isNone) w :=
  equalIn_sl hT 9999 a b n c n' c' w h
theorem guard_sl (op : BinOp) (xT : TypeId) (x y : Operand) (a b : Option Addr) (n c n' c' : Nat) (w : World) : (eqGuard op xT x y (.slice a n c) (.slice b n' c')).run P w = .ok () w := by
  unfold eqGuard; cases op <;> rfl
theorem sl_world {p : Option Addr} {n c : Nat} {φ : Phi} {v' : Value} (h : V φ (.slice p n c) v') (hc : c ≠ capE) : ∃ a n' c', v' = .slice a n' c' ∧ a.isNone = p.isNone := by
  cases h with
  | nilSlice => exact ⟨none, 0, 0, rfl, rfl⟩
  | slice i o n c L c' h1 h2 h3 h4 => exact ⟨_, _, _, rfl, rfl⟩
  | empty i o a c' => exact absurd rfl hc
theorem p_eqlNil {xT yT E : TypeId} {x : Operand} {p : Option Addr} {n c : Nat} (hT : P.underlying xT = some (.slice E)) (hx : aEv t x = some (.slice p n c)) (hc : c ≠ capE) :
    PureOk P N ⟨d, .binOp .eql xT x (.const (.slice none 0 0)) yT, ty, pos, af, g⟩ t (.bool p.isNone) := by
  intro φ w a he
  obtain ⟨q, n', c', e, hq⟩ := sl_world (ev_ok he hx) hc
  refine ⟨.bool p.isNone, ?_, .bool _⟩
  have e2 : a.eval (.const (.slice none 0 0)) = .slice none 0 0 := rfl
  simp only [execOp]
  rw [e, e2]
  simp only [Sem.run_bind, guard_sl, Result.andThen_ok]
  show ((do pure (Value.bool (← Op.equal xT (.slice q n' c') (.slice none 0 0))) : Sem Value).run P w).andThen _ = _
  rw [Sem.run_bind, equal_sl hT _ _ _ _ _ _ _ (.inr rfl), hq]
  simp
theorem p_neqNil {xT yT E : TypeId} {x : Operand} {p : Option Addr} {n c : Nat} (hT : P.underlying xT = some (.slice E)) (hx : aEv t x = some (.slice p n c)) (hc : c ≠ capE) :
    PureOk P N ⟨d, .binOp .neq xT x (.const (.slice none 0 0)) yT, ty, pos, af, g⟩ t (.bool (!p.isNone)) := by
  intro φ w a he
  obtain ⟨q, n', c', e, hq⟩ := sl_world (ev_ok he hx) hc
  refine ⟨.bool (!p.isNone), ?_, .bool _⟩
  have e2 : a.eval (.const (.slice none 0 0)) = .slice none 0 0 := rfl
  simp only [execOp]
  rw [e, e2]
  simp only [Sem.run_bind, guard_sl, Result.andThen_ok]
  show ((do pure (Value.bool (!(← Op.equal xT (.slice q n' c') (.slice none 0 0)))) : Sem Value).run P w).andThen _ = _
  rw [Sem.run_bind, equal_sl hT _ _ _ _ _ _ _ (.inr rfl), hq]
  simp
end rules
theorem Sb.ne {p : Option Addr} {n c m : Nat} (h : Sb p n c m) (hm : Nat.blt m 1000000 = true) : c ≠ capE := by
  have := Nat.le_of_ble_eq_true hm
  rcases h with ⟨_, _, rfl⟩ | ⟨i, _, rfl | ⟨_, h⟩⟩
  · unfold capE capU; omega
  · unfold capE capU; omega
  · unfold capE; omega
/-- n slices without elements -/
def tnil (n : Nat) : Tb := List.replicate n (none, 0, [])
theorem tnil_rows (n : Nat) : trows (tnil n) = List.replicate n [] := by unfold trows tnil; rw [List.map_replicate]
theorem tnil_cells (n : Nat) : tcells (tnil n) = List.replicate n (.slice none 0 0) := by unfold tcells tnil; rw [List.map_replicate]; rfl
theorem tnil_sb (n : Nat) : TSb (tnil n) := fun x hx => by rw [List.eq_of_mem_replicate hx]; exact .nil
theorem tnil_seg (n : Nat) : tseg (tnil n) = [] := by
  unfold tseg tnil
  induction n with
  | zero => rfl
  | succ n ih => rw [List.replicate_succ, List.flatMap_cons, ih]; rfl
section st
variable {M : List Nat} {H G : AHeap} {L : List Sg} {T : Tb} {j : Nat} {q : Option Addr} {c : Nat} {xs : List Int}
theorem St.tnew (S : St M H G L) (n : Nat) : St M H G (tseg (tnil n) :: L) := S.same (by rw [List.flatten_cons, tnil_seg]; rfl)
/-- a row takes the place of another -/
theorem St.tput {y : Option Addr × Nat × List Int} (S : St M H G (oseg q (ints xs) :: tseg T :: L)) (hj : T[j]? = some y) : St M H G (tseg (T.set j (q, c, xs)) :: L) := by
  obtain ⟨t1, t2⟩ := tseg_at hj
  have S2 : St M H G [oseg y.1 (ints y.2.2), tseg (T.set j (q, c, xs)), L.flatten] := by
    refine S.perm ?_
    rw [t2, List.flatten_cons, List.flatten_cons, t1]
    simp only [List.flatten_cons, List.flatten_nil, List.append_nil]
    -- a ++ ((A ++ (y ++ B)) ++ L) ~ y ++ ((A ++ (a ++ B)) ++ L)
    have key : ∀ (a A y B L : Sg), (a ++ ((A ++ (y ++ B)) ++ L)).Perm (y ++ ((A ++ (a ++ B)) ++ L)) := by
      intro a A y B L
      simp only [List.append_assoc]
      exact (List.perm_append_comm_assoc _ _ _).trans ((List.Perm.append_left A (List.perm_append_comm_assoc _ _ _)).trans (List.perm_append_comm_assoc _ _ _))
    exact key _ _ _ _ _
  exact (S2.drop 0 rfl).same (by simp)
end st
theorem tcells_put (T : Tb) (j : Nat) (q : Option Addr) (c : Nat) (xs : List Int) : (tcells T).set j (.slice q xs.length c) = tcells (T.set j (q, c, xs)) := by unfold tcells; rw [List.map_set]; rfl
theorem TSb.put {T : Tb} {j : Nat} {q : Option Addr} {c : Nat} {xs : List Int} (h : TSb T) (k : Sb q xs.length c 1) : TSb (T.set j (q, c, xs)) := fun x hx => by
  rcases List.mem_or_eq_of_mem_set hx with hx | rfl
  · exact h x hx
  · exact k
theorem t_at {T : Tb} {R : List (List Int)} {n j : Nat} (hT : trows T = R) (hl : R.length = n) (hj : j < n) : ∃ y, T[j]? = some y := ⟨_, List.getElem?_eq_getElem (by rw [tlen hT, hl]; exact hj)⟩
theorem tc_lt {T : Tb} {R : List (List Int)} {n j : Nat} (hT : trows T = R) (hl : R.length = n) (hj : j < n) : j < (tcells T).length := by rw [tcells_len, tlen hT, hl]; exact hj
/-- slices handed in: room that is not that of an unknown slice -/
theorem own_ne {p : Option Addr} {n c : Nat} (h : Sb p n c 1) : c ≠ capE := h.ne rfl
end Go.Proofs.Ytocaepkkaihiiaa.Am
namespace Go.Proofs.Ytocaepkkaihiiaa.Am
open Go
theorem vw_nil {G : AHeap} {p : Option Addr} {n c : Nat} {vs : List Value} (h : Vw G p n c vs) (hp : p.isNone = true) : n = 0 ∧ c = 0 := by
  rcases h.inn with ⟨_, h1, h2⟩ | ⟨i, o, rfl, _⟩
  · exact ⟨h1, h2⟩
  · cases hp
end Go.Proofs.Ytocaepkkaihiiaa.Am
namespace Go.Proofs.Ytocaepkkaihiiaa.Am
open Go
/-- the rows but one -/
def tseg2 (T : Tb) (j : Nat) : Sg := tseg (T.take j) ++ tseg (T.drop (j + 1))
section
variable {M : List Nat} {H G : AHeap} {L : List Sg} {T : Tb} {j : Nat} {q : Option Addr} {c : Nat} {xs : List Int}
theorem St.tout (S : St M H G (tseg T :: L)) (e : T[j]? = some (q, c, xs)) : St M H G (oseg q (ints xs) :: tseg2 T j :: L) := by
  refine S.perm ?_
  rw [List.flatten_cons, List.flatten_cons, List.flatten_cons, (tseg_at e).1]
  unfold tseg2
  simp only [List.append_assoc]
  exact List.perm_append_comm_assoc _ _ _
theorem St.tin {xs' : List Int} (S : St M H G (oseg q (ints xs') :: tseg2 T j :: L)) (e : T[j]? = some (q, c, xs)) : St M H G (tseg (T.set j (q, c, xs')) :: L) := by
  refine S.perm ?_
  rw [List.flatten_cons, List.flatten_cons, List.flatten_cons, (tseg_at e).2]
  unfold tseg2
  simp only [List.append_assoc]
  exact List.perm_append_comm_assoc _ _ _
end
def TNe (T : Tb) : Prop := ∀ x ∈ T, x.2.1 ≠ capE
theorem TNe.at {T : Tb} {j : Nat} {p : Option Addr} {c : Nat} {xs : List Int} (h : TNe T) (e : T[j]? = some (p, c, xs)) : c ≠ capE := h _ (List.mem_of_getElem? e)
theorem TSb.tne {T : Tb} (h : TSb T) : TNe T := fun x hx => (h x hx).ne rfl
/-! slices of tables, read -/
abbrev Tb3 := List (Option Addr × Nat × Tb)
def thdr3 (x : Option Addr × Nat × Tb) : Value := .slice x.1 x.2.2.length x.2.1
def tcells3 (T : Tb3) : List Value := T.map thdr3
def trows3 (T : Tb3) : List (List (List Int)) := T.map fun x => trows x.2.2
def rw3 (R : List (List (List Int))) (k : Nat) : List (List Int) := R.getD k []
def TVw3 (G : AHeap) (T : Tb3) : Prop := ∀ x ∈ T, Vw G x.1 x.2.2.length x.2.1 (tcells x.2.2) ∧ TVw G x.2.2
theorem tlen3 {T : Tb3} {R : List (List (List Int))} (h : trows3 T = R) : T.length = R.length := by rw [← h]; exact (List.length_map _).symm
theorem tc3_len1 {T : Tb3} {R : List (List (List Int))} {n : Nat} (hT : trows3 T = R) (h : R.length = n) : (tcells3 T).length = n * 1 := by
  unfold tcells3; rw [List.length_map, tlen3 hT, h, Nat.mul_one]
theorem tget3 {T : Tb3} {R : List (List (List Int))} {j : Nat} (h : trows3 T = R) (hj : j < R.length) : ∃ p c X, T[j]? = some (p, c, X) ∧ (tcells3 T)[j]? = some (.slice p (rw3 R j).length c) ∧ trows X = rw3 R j := by
  subst h
  have hj' : j < T.length := by rw [tlen3 rfl]; exact hj
  have e : rw3 (trows3 T) j = trows T[j].2.2 := by
    unfold rw3 trows3; rw [List.getD_eq_getElem?_getD, List.getElem?_map, List.getElem?_eq_getElem hj']; rfl
  refine ⟨T[j].1, T[j].2.1, T[j].2.2, List.getElem?_eq_getElem hj', ?_, e.symm⟩
  unfold tcells3; rw [List.getElem?_map, List.getElem?_eq_getElem hj', e, trows_len]; rfl
theorem TVw3.at1 {G : AHeap} {T : Tb3} {j : Nat} {p : Option Addr} {c n : Nat} {X : Tb} (h : TVw3 G T) (e : T[j]? = some (p, c, X)) {R : List (List Int)} (hX : trows X = R) (hn : R.length = n) : Vw G p n c (tcells X) := by
  have := (h _ (List.mem_of_getElem? e)).1
  rwa [show (p, c, X).2.2.length = n from by rw [← hn, ← hX, trows_len]] at this
theorem TVw3.at2 {G : AHeap} {T : Tb3} {j : Nat} {p : Option Addr} {c : Nat} {X : Tb} (h : TVw3 G T) (e : T[j]? = some (p, c, X)) : TVw G X := (h _ (List.mem_of_getElem? e)).2
theorem St.tview3 {H G : AHeap} {L : List Sg} {T : Tb3} (S : St [] H G L) (h : TVw3 H T) : TVw3 G T := fun x hx => ⟨S.view (h x hx).1, S.tview (h x hx).2⟩
theorem TVw3.nil {G : AHeap} : TVw3 G [] := fun x h => by cases h
theorem TVw3.cons {G : AHeap} {p : Option Addr} {c n : Nat} {X : Tb} {R : List (List Int)} {T : Tb3} (h1 : Vw G p n c (tcells X)) (hX : trows X = R) (hn : R.length = n) (h2 : TVw G X) (h : TVw3 G T) : TVw3 G ((p, c, X) :: T) := fun x hx => by
  rcases List.mem_cons.1 hx with rfl | hx
  · refine ⟨?_, h2⟩
    show Vw G p X.length c (tcells X)
    rwa [show X.length = n from by rw [← hn, ← hX, trows_len]]
  · exact h x hx
end Go.Proofs.Ytocaepkkaihiiaa.Am
namespace Go.Proofs.Ytocaepkkaihiiaa.Am
open Go Go.RowKit
theorem trows3_1 {X : Tb} {R : List (List Int)} {p : Option Addr} {c : Nat} (h : trows X = R) : trows3 [(p, c, X)] = [R] := by subst h; rfl
theorem trows3_2 {X Y : Tb} {R Q : List (List Int)} {p q : Option Addr} {c e : Nat} (h : trows X = R) (k : trows Y = Q) : trows3 [(p, c, X), (q, e, Y)] = [R, Q] := by subst h k; rfl
theorem vw3_1 {G : AHeap} {i n c : Nat} {p : Option Addr} {X : Tb} {R : List (List Int)} (h : hget G i = .row false [.slice p n c]) (hX : trows X = R) (hn : R.length = n) : Vw G (some ⟨i, 0, none⟩) 1 1 (tcells3 [(p, c, X)]) := by
  have e : tcells3 [(p, c, X)] = [.slice p n c] := by show [Value.slice p X.length c] = _; rw [show X.length = n from by rw [← hn, ← hX, trows_len]]
  rw [e]
  exact ⟨.inr ⟨i, 0, rfl, row_lt h⟩, fun _ => rfl, fun j v e => by show hcell G i (0 + j) = _; rw [Nat.zero_add]; exact row_cell h e⟩
theorem vw3_2 {G : AHeap} {i n c n' c' : Nat} {p q : Option Addr} {X Y : Tb} {R Q : List (List Int)} (h : hget G i = .row false [.slice p n c, .slice q n' c']) (hX : trows X = R) (hn : R.length = n) (hY : trows Y = Q) (hn' : Q.length = n') : Vw G (some ⟨i, 0, none⟩) 2 2 (tcells3 [(p, c, X), (q, c', Y)]) := by
  have e : tcells3 [(p, c, X), (q, c', Y)] = [.slice p n c, .slice q n' c'] := by
    show [Value.slice p X.length c, Value.slice q Y.length c'] = _
    rw [show X.length = n from by rw [← hn, ← hX, trows_len], show Y.length = n' from by rw [← hn', ← hY, trows_len]]
  rw [e]
  exact ⟨.inr ⟨i, 0, rfl, row_lt h⟩, fun _ => rfl, fun j v e => by show hcell G i (0 + j) = _; rw [Nat.zero_add]; exact row_cell h e⟩
section
variable {P : Program} {N : Nat} {t : Env} {H : AHeap} {d : Option Tmp} {ty : TypeId} {pos : String} {af : Array Edge} {g : Option (Nat × Bool)}
/-- a slice of slices written out -/
theorem s_buildSl {T E : TypeId} {len i : Nat} {ps : List (Nat × Operand)} {vs : List (Nat × Value)} {cs : List Value} {z : Value} {H' : AHeap} (hT : P.underlying T = some (.slice E)) (hm : ∀ w, (sizeOf E).run P w = .ok 1 w) (hz : ∀ w, (zeroValue E).run P w = .ok z w) (hzc : z = .slice none 0 0)
    (hp : ps.map (fun p => (p.1, aEv t p.2)) = vs.map (fun p => (p.1, some p.2))) (hlen : len ≤ 16777216) (hcs : partsOf 1 vs ((List.replicate len [.slice none 0 0]).flatten) = some cs) (hl : cs.length = len) (hidx : H.length = i) (hH : H ++ [AObj.row false cs] = H') :
    OpOk P N ⟨d, .buildSlice T len ps.toArray, ty, pos, af, g⟩ t H (.slice (some ⟨i, 0, none⟩) len len) H' := by
  subst hidx hH hzc
  exact m_buildSlice hp hT hm hz (by intro c hc; simp [Value.cells] at hc; subst hc; rfl) rfl Nat.one_pos (by omega) hcs (by omega)
theorem a_buildSl {T E : TypeId} {len i : Nat} {ps : List (Nat × Operand)} {vs : List (Nat × Value)} {cs : List Value} {z : Value} (hT : P.underlying T = some (.slice E)) (hm : ∀ w, (sizeOf E).run P w = .ok 1 w) (hz : ∀ w, (zeroValue E).run P w = .ok z w) (hzc : z = .slice none 0 0)
    (hp : ps.map (fun p => (p.1, aEv t p.2)) = vs.map (fun p => (p.1, some p.2))) (hlen : len ≤ 16777216) (hcs : partsOf 1 vs ((List.replicate len [.slice none 0 0]).flatten) = some cs) (hl : cs.length = len) :
    AOk P N ⟨d, .buildSlice T len ps.toArray, ty, pos, af, g⟩ t cs i (.slice (some ⟨i, 0, none⟩) len len) := by
  subst hzc
  exact a_buildSlice hp hT hm hz (by intro c hc; simp [Value.cells] at hc; subst hc; rfl) rfl Nat.one_pos (by omega) hcs (by omega)
end
end Go.Proofs.Ytocaepkkaihiiaa.Am
namespace Go.Proofs.Ytocaepkkaihiiaa.Am
open Go
theorem set_le {G G' : AHeap} {i : Nat} {o : AObj} (h : G.set i o = G') : G.length ≤ G'.length := by rw [← h, List.length_set]; exact Nat.le_refl _
end Go.Proofs.Ytocaepkkaihiiaa.Am
namespace Go.Proofs.Ytocaepkkaihiiaa.Am
open Go
theorem St.tone {M : List Nat} {H G : AHeap} {L : List Sg} {s : Sg} (S : St M H G (s :: L)) (p : Option Addr) (c : Nat) (xs : List Int) (h : s = oseg p (ints xs)) : St M H G (tseg [(p, c, xs)] :: L) := S.same (by simp [tseg, h])
end Go.Proofs.Ytocaepkkaihiiaa.Am
