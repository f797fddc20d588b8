/-
  An abstract machine over this model's programs, tenth part: the rules in the shape in which a program prints them. No condition.
-/
import Derived.Test.YtocaepkkaihiiaaAm7
namespace Go.Proofs.Ytocaepkkaihiiaa.Am
open Go Go.RowKit
set_option linter.unusedVariables false
set_option linter.unusedSimpArgs false

section rules
variable {P : Program} {N : Nat} {ops : Array Oper} {t : Env} {H : AHeap} {Q : Exit → Env → AHeap → Prop}

theorem lt_of {d N : Nat} (h : Nat.blt d N = true) : ∀ k, (some d : Option Tmp) = some k → k < N := fun k e => Option.some.inj e ▸ (Nat.blt_eq ▸ h)
theorem lt_of_none {N : Nat} : ∀ k, (none : Option Tmp) = some k → k < N := fun k e => nomatch e

theorem AOps.c {d : Nat} {op : Op} {ty : TypeId} {pos : String} {af : Array Edge} {rest : List Oper} {v : Value} {H' : AHeap} (hd : Nat.blt d N = true) (h : OpOk P N ⟨some d, op, ty, pos, af, none⟩ t H v H')
    (hr : AOps P N ops rest ((d, v) :: t) H' Q) : AOps P N ops (⟨some d, op, ty, pos, af, none⟩ :: rest) t H Q := AOps.cons rfl h (lt_of hd) hr
theorem AOps.p {d : Nat} {op : Op} {ty : TypeId} {pos : String} {af : Array Edge} {rest : List Oper} {v : Value} (hd : Nat.blt d N = true) (h : PureOk P N ⟨some d, op, ty, pos, af, none⟩ t v)
    (hr : AOps P N ops rest ((d, v) :: t) H Q) : AOps P N ops (⟨some d, op, ty, pos, af, none⟩ :: rest) t H Q := AOps.cons rfl (h.op H) (lt_of hd) hr
theorem AOps.s {op : Op} {ty : TypeId} {pos : String} {af : Array Edge} {rest : List Oper} {v : Value} {H' : AHeap} (h : OpOk P N ⟨none, op, ty, pos, af, none⟩ t H v H')
    (hr : AOps P N ops rest t H' Q) : AOps P N ops (⟨none, op, ty, pos, af, none⟩ :: rest) t H Q := AOps.cons rfl h lt_of_none hr
theorem AOps.gc {d j e : Nat} {want : Bool} {op : Op} {ty : TypeId} {pos : String} {af : Array Edge} {rest : List Oper} {v : Value} {H' : AHeap} (hj : (ops[j]?).bind (·.dst) = some e) (hb : eget t e = some (.bool want)) (hd : Nat.blt d N = true)
    (h : OpOk P N ⟨some d, op, ty, pos, af, some (j, want)⟩ t H v H') (hr : AOps P N ops rest ((d, v) :: t) H' Q) : AOps P N ops (⟨some d, op, ty, pos, af, some (j, want)⟩ :: rest) t H Q := AOps.guardT rfl hj hb h (lt_of hd) hr
theorem AOps.gp {d j e : Nat} {want : Bool} {op : Op} {ty : TypeId} {pos : String} {af : Array Edge} {rest : List Oper} {v : Value} (hj : (ops[j]?).bind (·.dst) = some e) (hb : eget t e = some (.bool want)) (hd : Nat.blt d N = true)
    (h : PureOk P N ⟨some d, op, ty, pos, af, some (j, want)⟩ t v) (hr : AOps P N ops rest ((d, v) :: t) H Q) : AOps P N ops (⟨some d, op, ty, pos, af, some (j, want)⟩ :: rest) t H Q := AOps.guardT rfl hj hb (h.op H) (lt_of hd) hr
/-- not wanted -/
theorem AOps.gn {d j e : Nat} {want : Bool} {op : Op} {ty : TypeId} {pos : String} {af : Array Edge} {rest : List Oper} (hj : (ops[j]?).bind (·.dst) = some e) (hb : eget t e = some (.bool (!want))) (hd : Nat.blt d N = true)
    (hr : AOps P N ops rest ((d, undef) :: t) H Q) : AOps P N ops (⟨some d, op, ty, pos, af, some (j, want)⟩ :: rest) t H Q := AOps.guardF rfl hj (.inl hb) (lt_of hd) hr
theorem AOps.gu {d j e : Nat} {want : Bool} {op : Op} {ty : TypeId} {pos : String} {af : Array Edge} {rest : List Oper} (hj : (ops[j]?).bind (·.dst) = some e) (hb : eget t e = some undef) (hd : Nat.blt d N = true)
    (hr : AOps P N ops rest ((d, undef) :: t) H Q) : AOps P N ops (⟨some d, op, ty, pos, af, some (j, want)⟩ :: rest) t H Q := AOps.guardF rfl hj (.inr hb) (lt_of hd) hr

variable {d : Option Tmp} {ty : TypeId} {pos : String} {af : Array Edge} {g : Option (Nat × Bool)}
theorem p_pickT {c x y : Operand} {v : Value} (hc : aEv t c = some (.bool true)) (hx : aEv t x = some v) : PureOk P N ⟨d, .pick c x y, ty, pos, af, g⟩ t v := p_pick hc (fun _ => hx) (fun h => nomatch h)
theorem p_pickF {c x y : Operand} {v : Value} (hc : aEv t c = some (.bool false)) (hy : aEv t y = some v) : PureOk P N ⟨d, .pick c x y, ty, pos, af, g⟩ t v := p_pick hc (fun h => nomatch h) (fun _ => hy)

theorem Sub.skip {t' t : Env} {k : Nat} {v : Value} (hk : eget t' k = none) (h : Sub t' t) : Sub t' ((k, v) :: t) := by
  intro n u e
  simp only [eget]
  cases hb : Nat.beq n k with
  | false => exact h n u e
  | true => rw [Nat.eq_of_beq_eq_true hb, hk] at e; cases e
theorem Sub.cons' {t' t : Env} {k : Nat} {v u : Value} (h1 : eget t k = some u) (he : u = v) (h : Sub t' t) : Sub ((k, v) :: t') t := Sub.cons (by rw [h1, he]) h

/-- The first n operations by themselves. -/
theorem AOps.split (n : Nat) (M : Env → AHeap → Prop) {l : List Oper} (h1 : AOps P N ops (l.take n) t H (fun ex t' H' => ex = .normal ∧ M t' H')) (h2 : ∀ t' H', M t' H' → AOps P N ops (l.drop n) t' H' Q) : AOps P N ops l t H Q := by
  intro W φ₀ H₀ w₀ dfr φ w a hs he hst hdf
  have key : ∀ (l1 l2 : List Oper) (a : Act) (w : World), wpList P ops (Post W φ₀ H₀ w₀ N dfr (fun ex t' H' => ex = .normal ∧ M t' H')) l1 a w →
      (∀ t' H', M t' H' → AOps P N ops l2 t' H' Q) → wpList P ops (Post W φ₀ H₀ w₀ N dfr Q) (l1 ++ l2) a w := by
    intro l1
    induction l1 with
    | nil =>
      intro l2 a w h hk
      obtain ⟨hd, φ', t', H', k1, k2, k3, _, k4⟩ := h
      exact hk t' H' k4 W φ₀ H₀ w₀ dfr φ' w a k1 k2 k3 hd
    | cons o l1 ih =>
      intro l2 a w h hk
      simp only [List.cons_append, wpList] at h ⊢
      split
      · rename_i hw
        rw [if_pos hw] at h
        rcases h with h | ⟨h, a₀, w1, hq⟩
        · refine .inl ?_
          unfold Oper.wp at *
          generalize (execOp a.eval o).run P w = r at *
          cases r with
          | ok n w' =>
            cases n <;> simp only [Oper.upon] at h ⊢
            case value v => exact ih l2 _ _ h hk
            case skip => exact ih l2 _ _ h hk
            case defer d => exact ih l2 _ _ h hk
            case enter f args =>
              refine h.mono fun e w'' he => ?_
              cases e with
              | returned v => exact ih l2 _ _ he hk
              | panicked chain => obtain ⟨_, _, _, _, _, _, _, hbad, _⟩ := he; cases hbad
              | outgrown => obtain ⟨a₀, w1, hq⟩ := he; obtain ⟨_, _, _, _, _, _, _, hbad, _⟩ := hq; cases hbad
            case row rw args => exact h.mono fun v w'' he => ih l2 _ _ he hk
            all_goals exact h
          | halt x w' =>
            cases x <;> simp only [Oper.upon] at h ⊢ <;> first | exact h | (obtain ⟨_, _, _, _, _, _, _, hbad, _⟩ := h; cases hbad)
        · obtain ⟨_, _, _, _, _, _, _, hbad, _⟩ := hq; cases hbad
      · rename_i hw
        rw [if_neg hw] at h
        exact ih l2 _ _ h hk
  have := key (l.take n) (l.drop n) a w (h1 W φ₀ H₀ w₀ dfr φ w a hs he hst hdf) h2
  rwa [List.take_append_drop] at this

/-- Code whose ways meet again. -/
theorem AWp.cut {x y : Code} (M : Env → AHeap → Prop) (h1 : AWp P N x t H (aThen M Q)) (h2 : ∀ t' H', M t' H' → AWp P N y t' H' Q) : AWp P N (.seq x y) t H Q :=
  AWp.seq (h1.mono fun e t' H' h => by cases e <;> first | exact h2 _ _ h | exact h)

/-- A loop by a state of its own. -/
theorem AWp.round {α : Type} {c : Code} (E : α → Env) (M : α → AHeap) (Inv : α → Prop) (μ : α → Nat) (a₀ : α) (h₀ : Inv a₀) (hsub : Sub (E a₀) t) (hH : H = M a₀)
    (round : ∀ a, Inv a → AWp P N c (E a) (M a) (aThen (fun t' H' => ∃ b, Inv b ∧ μ b < μ a ∧ Sub (E b) t' ∧ H' = M b) Q)) : AWp P N (.loop c) t H Q := by
  refine AWp.loop (fun n t H => ∃ a, n = μ a ∧ Inv a ∧ Sub (E a) t ∧ H = M a) (μ a₀) ⟨a₀, rfl, h₀, hsub, hH⟩ ?_
  rintro n t H ⟨a, rfl, h1, h2, rfl⟩
  exact ((round a h1).mono fun e t' H' h => by
    cases e with
    | normal => obtain ⟨b, k1, k2, k3, k4⟩ := h; exact ⟨μ b, k2, b, rfl, k1, k3, k4⟩
    | _ => exact h).sub h2

theorem AOps.heap {l : List Oper} {H' : AHeap} (h : H = H') (hr : AOps P N ops l t H' Q) : AOps P N ops l t H Q := h ▸ hr
theorem AWp.heap {c : Code} {H' : AHeap} (h : H = H') (hr : AWp P N c t H' Q) : AWp P N c t H Q := h ▸ hr

theorem ACall.body {P : Program} {f : FuncId} {fn : Func} {c : Code} {args : List Value} {H : AHeap} {v : Value} {H' : AHeap} {N : Nat} (t : Env) (hf : P.funcs[f]? = some fn) (hb : fn.body = some c)
    (hN : fn.ntmps = N) (hle : Nat.ble args.length N = true) (ht : envOf args = t) (h : AWp P N c t H (Ends P N fn H v H')) : ACall P f args H v H' :=
  ACall.of_body hf hb hN (Nat.le_of_ble_eq_true hle) (ht ▸ h)
end rules

/-! ### Memory of the call's own behind what was there -/
theorem hget_own (H l : AHeap) (k : Nat) : hget (H ++ l) (H.length + k) = hget l k := by
  rw [hget_append_ge (Nat.le_add_right _ _), Nat.add_sub_cancel_left]
theorem hcell_own {H l : AHeap} {k o : Nat} {v : Value} (h : hcell l k o = some v) : hcell (H ++ l) (H.length + k) o = some v := by
  unfold hcell at *; rw [hget_own]; exact h
theorem hcell_old {H l : AHeap} {i o : Nat} {v : Value} (hi : i < H.length) (h : hcell H i o = some v) : hcell (H ++ l) i o = some v := by
  unfold hcell at *; rw [hget_append_lt hi]; exact h
theorem hcell_lt {H : AHeap} {i o : Nat} {v : Value} (h : hcell H i o = some v) : i < H.length := by
  rcases Nat.lt_or_ge i H.length with h' | h'
  · exact h'
  · unfold hcell at h; rw [hget_ge h'] at h; cases h
theorem set_own (H l : AHeap) (k : Nat) (o : AObj) : (H ++ l).set (H.length + k) o = H ++ l.set k o := by
  rw [List.set_append_right _ _ (Nat.le_add_right _ _), Nat.add_sub_cancel_left]

theorem V.restrict {φ φ' : Phi} (hm : ∀ i L, φ i = some L → φ' i = some L) {v u u' : Value} (h : V φ v u) : V φ' v u' → V φ v u' := by
  induction h generalizing u' with
  | bool b => intro k; cases k; exact .bool b
  | int a n => intro k; cases k; exact .int a n
  | string s => intro k; cases k; exact .string s
  | nilPtr => intro k; cases k; exact .nilPtr
  | ptr i o L h =>
    intro k
    cases k with
    | ptr _ _ L' h' => rw [hm _ _ h] at h'; obtain rfl := Option.some.inj h'; exact .ptr i o L h
  | nilSlice => intro k; cases k; exact .nilSlice
  | slice i o n c L c' h hc hu hn =>
    intro k
    cases k with
    | slice _ _ _ _ L' c2 h' hc' hu' hn' => rw [hm _ _ h] at h'; obtain rfl := Option.some.inj h'; exact .slice i o n c L c2 h hc' hu' hn'
    | empty _ _ a c2 => exact .empty _ _ a c2
  | empty i o a c' =>
    intro k
    cases k with
    | slice _ _ _ _ L' c2 h' hc' hu' hn' => exact .empty _ _ _ _
    | empty _ _ a c2 => exact .empty _ _ a c2
  | nilMap => intro k; cases k; exact .nilMap
  | map r L h =>
    intro k
    cases k with
    | map _ L' h' => rw [hm _ _ h] at h'; obtain rfl := Option.some.inj h'; exact .map r L h
  | nilFunc => intro k; cases k; exact .nilFunc
  | nilIface => intro k; cases k; exact .nilIface
  | iface t v v' h ih => intro k; cases k with | iface _ _ w hw => exact .iface t v w (ih hw)
  | func fn fs fs' cs cs' h1 h2 hf hc ihf ihc =>
    intro k
    cases k with
    | func _ _ gs _ ds k1 k2 kf kc =>
      refine .func fn fs gs cs ds k1 k2 (fun i v v' e e' => ?_) (fun i v v' e e' => ?_)
      · obtain ⟨x, hx⟩ := get_pair h1 e; exact ihf i v x e hx (kf i v v' e e')
      · obtain ⟨x, hx⟩ := get_pair h2 e; exact ihc i v x e hx (kc i v v' e e')
  | agg cs cs' h hc ih =>
    intro k
    cases k with
    | agg _ ds k1 kc =>
      refine .agg cs ds k1 (fun i v v' e e' => ?_)
      obtain ⟨x, hx⟩ := get_pair h e; exact ih i v x e hx (kc i v v' e e')
  | tuple cs cs' h hc ih =>
    intro k
    cases k with
    | tuple _ ds k1 kc =>
      refine .tuple cs ds k1 (fun i v v' e e' => ?_)
      obtain ⟨x, hx⟩ := get_pair h e; exact ih i v x e hx (kc i v v' e e')

/-- What the call made is spoken of no more; what was there is as it was. -/
theorem Fin.drop {H : AHeap} {v : Value} {H' : AHeap} (hf : Flat v) (hold : ∀ i, i < H.length → hget H' i = hget H i) : Fin H v H' v H := by
  intro W φ w φ' w' v' hs hst hs' hv
  have hm := hst.keeps hs
  obtain rfl := V.of_flat hf hv
  refine ⟨φ, ⟨hs.dom, ?_, fun i j L M hij ei ej hi hj => ?_, fun i j L M hij ei ej hi hj => ?_, hs'.base⟩, V.flat hf, ⟨fun _ _ => rfl, Nat.le_refl _, hst.size, hst.cells, hst.frozen, fun b o hb h => h⟩⟩
  · intro i L e
    have h1 := hs.obj i L e
    have h2 := hs'.obj i L (hm i L e)
    rw [hold i (hs.dom i L e)] at h2
    cases ho : hget H i with
    | dead => trivial
    | row ro cells =>
      rw [ho] at h1 h2
      refine ⟨h2.fits, fun j c hc => ?_, h2.old, h2.own, h2.there⟩
      obtain ⟨c', e1, e2⟩ := h2.reads j c hc
      obtain ⟨u, e3, e4⟩ := h1.reads j c hc
      exact ⟨c', e1, V.restrict hm e4 e2⟩
    | map es => rw [ho] at h2; exact h2
  · exact hs'.disj i j L M hij (hm i L ei) (hm j M ej) (by rw [hold i (hs.dom i L ei)]; exact hi) (by rw [hold j (hs.dom j M ej)]; exact hj)
  · exact hs'.mdisj i j L M hij (hm i L ei) (hm j M ej) (by rw [hold i (hs.dom i L ei)]; exact hi) (by rw [hold j (hs.dom j M ej)]; exact hj)
theorem Fin.dropOwn {H : AHeap} {v : Value} {l : AHeap} (hf : Flat v) : Fin H v (H ++ l) v H := Fin.drop hf fun i hi => hget_append_lt hi

theorem wr64 {x : Int} (h1 : -9223372036854775808 ≤ x) (h2 : x ≤ 9223372036854775807) : IntKind.i64.wrap x = x := by
  simp [IntKind.wrap, IntKind.bits, IntKind.signed]; omega

/-! ### Lists of ints -/
def ints (l : List Int) : List Value := l.map (.int .i64)
def rd (l : List Int) (k : Nat) : Int := l.getD k 0
theorem ints_length (l : List Int) : (ints l).length = l.length := by simp [ints]
theorem ints_get {l : List Int} {k : Nat} (h : k < l.length) : (ints l)[k]? = some (.int .i64 (rd l k)) := by
  simp [ints, rd, List.getD, List.getElem?_eq_getElem h]
theorem ints_get' {l : List Int} {k : Nat} {v : Value} (h : (ints l)[k]? = some v) : k < l.length ∧ v = .int .i64 (rd l k) := by
  have hk : k < l.length := by have := (List.getElem?_eq_some_iff.1 h).1; simpa [ints] using this
  rw [ints_get hk] at h
  exact ⟨hk, (Option.some.inj h).symm⟩
theorem ints_set (l : List Int) (k : Nat) (x : Int) : (ints l).set k (.int .i64 x) = ints (l.set k x) := by simp [ints, List.map_set]
theorem ints_one {l : List Int} : ∀ v ∈ ints l, oneCell v = true := by
  intro v h
  obtain ⟨x, _, rfl⟩ := List.mem_map.1 h
  rfl
theorem ints_flat {l : List Int} : ∀ v ∈ ints l, flat0 v = true := by
  intro v h
  obtain ⟨x, _, rfl⟩ := List.mem_map.1 h
  rfl
theorem flat_arr (l : List Int) : Flat (.agg (ints l).toArray) := .agg _ fun i v h => flat0_ok (ints_flat v (by simpa using Array.mem_of_getElem? h))
theorem setMany_all : ∀ (vs cs : List Value), vs.length = cs.length → setMany cs 0 vs = vs := by
  intro vs cs h
  apply List.ext_getElem?
  intro j
  rcases Nat.lt_or_ge j vs.length with hj | hj
  · have := setMany_in vs cs 0 j (by omega) hj
    rw [Nat.zero_add] at this; exact this
  · rw [setMany_ge vs cs 0 j (by omega), List.getElem?_eq_none (by omega), List.getElem?_eq_none hj]
/-- a cell of an array of the call's own -/
theorem own_cell {H l : AHeap} {k o : Nat} {ro : Bool} {cs : List Value} {v : Value} (hk : hget l k = .row ro cs) (h : cs[o]? = some v) : hcell (H ++ l) (H.length + k) o = some v :=
  hcell_own (by unfold hcell; rw [hk]; exact h)
theorem row_cell {H : AHeap} {i o : Nat} {ro : Bool} {cs : List Value} {v : Value} (hk : hget H i = .row ro cs) (h : cs[o]? = some v) : hcell H i o = some v := by unfold hcell; rw [hk]; exact h
theorem row_cells {H : AHeap} {i : Nat} {ro : Bool} {cs : List Value} (hk : hget H i = .row ro cs) : ∀ (j : Nat) v, cs[j]? = some v → hcell H i (0 + j) = some v :=
  fun j v h => row_cell hk (by rw [Nat.zero_add]; exact h)
theorem own_row {H l : AHeap} {k : Nat} {o : AObj} (hk : hget l k = o) : hget (H ++ l) (H.length + k) = o := (hget_own H l k).trans hk

section shaped
variable {P : Program} {N : Nat} {t : Env} {H : AHeap} {d : Option Tmp} {ty : TypeId} {pos : String} {af : Array Edge} {g : Option (Nat × Bool)}
theorem s_box {E : TypeId} {x : Operand} {v : Value} {i : Nat} {H' : AHeap} {cs : List Value} (hx : aEv t x = some v) (hi : H.length = i) (hc : v.cells.toList = cs) (hH : H ++ [AObj.row false cs] = H') :
    OpOk P N ⟨d, .box E x, ty, pos, af, g⟩ t H (.pointer (some ⟨i, 0, none⟩)) H' := by subst hi hc hH; exact m_box hx
theorem s_alloc {E : TypeId} {z : Value} {i : Nat} {H' : AHeap} {cs : List Value} (hz : ∀ w, (zeroValue E).run P w = .ok z w) (hc : z.cells.toList = cs) (hf : cs.all flat0 = true) (hi : H.length = i) (hH : H ++ [AObj.row false cs] = H') :
    OpOk P N ⟨d, .alloc E, ty, pos, af, g⟩ t H (.pointer (some ⟨i, 0, none⟩)) H' := by
  subst hi hc hH; exact m_alloc hz fun c h => List.all_eq_true.1 hf c h
theorem s_indexArr {T : TypeId} {x y : Operand} {E : TypeId} {len m q : Nat} {k : IntKind} {n : Int} {i o : Nat} (hT : P.underlying T = some (.array len E)) (hm : ∀ w, (sizeOf E).run P w = .ok m w) (hx : aEv t x = some (.pointer (some ⟨i, o, none⟩))) (hy : aEv t y = some (.int k n))
    (h0 : 0 ≤ n) (h1 : n < len) (hq : o + n.toNat * m = q) : PureOk P N ⟨d, .indexAddr T x y, ty, pos, af, g⟩ t (.pointer (some ⟨i, q, none⟩)) := by subst hq; exact p_indexAddr_arr hx hy hT hm h0 h1
theorem s_indexSl {T : TypeId} {x y : Operand} {E : TypeId} {m q : Nat} {k : IntKind} {n : Int} {i o len c : Nat} (hT : P.underlying T = some (.slice E)) (hm : ∀ w, (sizeOf E).run P w = .ok m w) (hx : aEv t x = some (.slice (some ⟨i, o, none⟩) len c)) (hy : aEv t y = some (.int k n))
    (h0 : 0 ≤ n) (h1 : n < len) (hq : o + n.toNat * m = q) : PureOk P N ⟨d, .indexAddr T x y, ty, pos, af, g⟩ t (.pointer (some ⟨i, q, none⟩)) := by subst hq; exact p_indexAddr hx hy hT hm h0 h1
theorem s_fieldAddr {s : TypeId} {x : Operand} {f : Nat} {fs : Array Field} {fd : Field} {i o m q : Nat} (hs : P.underlying s = some (.struct fs)) (hf : fs[f]? = some fd) (hm : ∀ w, (sizeOf fd.type).run P w = .ok m w) (h0 : m ≠ 0) (hx : aEv t x = some (.pointer (some ⟨i, o, none⟩))) (hq : o + fd.offset = q) :
    PureOk P N ⟨d, .fieldAddr s x f, ty, pos, af, g⟩ t (.pointer (some ⟨i, q, none⟩)) := by subst hq; exact p_fieldAddr hx hs hf hm h0
theorem s_store {T : TypeId} {x y : Operand} {i o : Nat} {v : Value} {cs : List Value} {H' : AHeap} (hn : ∀ w, (sizeOf T).run P w = .ok 1 w) (hx : aEv t x = some (.pointer (some ⟨i, o, none⟩))) (hy : aEv t y = some v) (hv : oneCell v = true)
    (hg : hget H i = .row false cs) (ho : o < cs.length) (hH : H.set i (.row false (cs.set o v)) = H') : OpOk P N ⟨d, .store T x y, ty, pos, af, g⟩ t H undef H' := by subst hH; exact m_store hx hy hv hn hg ho
/-- an array or struct over the whole of a variable -/
theorem s_storeAll {T : TypeId} {x y : Operand} {i n : Nat} {vs cs : List Value} {H' : AHeap} (hn : ∀ w, (sizeOf T).run P w = .ok n w) (hx : aEv t x = some (.pointer (some ⟨i, 0, none⟩))) (hy : aEv t y = some (.agg vs.toArray)) (hv : ∀ v ∈ vs, oneCell v = true)
    (hg : hget H i = .row false cs) (hlen : vs.length = n) (hcs : cs.length = n) (hH : H.set i (.row false vs) = H') : OpOk P N ⟨d, .store T x y, ty, pos, af, g⟩ t H undef H' := by
  subst hH
  have := m_storeN (N := N) (d := d) (ty := ty) (pos := pos) (af := af) (g := g) hx hy hv hn hlen hg (by omega)
  rwa [setMany_all vs cs (by omega)] at this
theorem s_load {T : TypeId} {x : Operand} {i o : Nat} {v : Value} (hT : ∀ w, (isAgg T).run P w = .ok false w) (hx : aEv t x = some (.pointer (some ⟨i, o, none⟩))) (hc : hcell H i o = some v) :
    OpOk P N ⟨d, .load T x, ty, pos, af, g⟩ t H v H := m_load hx hT hc
theorem s_loadN {T : TypeId} {x : Operand} {i o n : Nat} {vs : List Value} (hT : ∀ w, (isAgg T).run P w = .ok true w) (hn : ∀ w, (sizeOf T).run P w = .ok n w) (hx : aEv t x = some (.pointer (some ⟨i, o, none⟩))) (hlen : vs.length = n)
    (hc : ∀ (j : Nat) v, vs[j]? = some v → hcell H i (o + j) = some v) : OpOk P N ⟨d, .load T x, ty, pos, af, g⟩ t H (.agg vs.toArray) H := m_loadN hx hT hn hlen hc
end shaped

theorem ends {P : Program} {N : Nat} {fn : Func} {H : AHeap} {v v₀ : Value} {H' H₀ : AHeap} {t : Env} {ex : Exit} (hex : ex = .normal ∨ ex = .ret) (hr : ResOk P N fn t H' v) (hv : v = v₀) (hf : Fin H v₀ H' v₀ H₀) : Ends P N fn H v₀ H₀ ex t H' :=
  ⟨hex, v, hr, hv ▸ hf⟩
theorem int_eq {k : IntKind} {a b : Int} (h : a = b) : Value.int k a = .int k b := by rw [h]
theorem bool_eq {a b : Bool} (h : a = b) : Value.bool a = .bool b := by rw [h]

theorem wrdiv {a b : Int} (h1 : 0 ≤ a) (h2 : a ≤ 9223372036854775807) (h3 : 0 < b) : IntKind.i64.wrap (a.tdiv b) = a / b := by
  rw [Int.tdiv_eq_ediv_of_nonneg h1]
  have h4 : 0 ≤ a / b := Int.ediv_nonneg h1 (by omega)
  have h5 : a / b ≤ a := Int.ediv_le_self b h1
  exact wr64 (by omega) (by omega)
theorem flat_list {l : List Value} (h : l.all flat0 = true) : ∀ c ∈ l, flat0 c = true := fun c hc => List.all_eq_true.1 h c hc
theorem ones_list {l : List Value} (h : l.all oneCell = true) : ∀ c ∈ l, oneCell c = true := fun c hc => List.all_eq_true.1 h c hc
section shaped
variable {P : Program} {N : Nat} {t : Env} {H : AHeap} {d : Option Tmp} {ty : TypeId} {pos : String} {af : Array Edge} {g : Option (Nat × Bool)}
theorem s_indexA {T : TypeId} {x y : Operand} {E : TypeId} {len m q : Nat} {k : IntKind} {n : Int} {cs : Array Value} {v : Value} (hT : P.underlying T = some (.array len E)) (hm : ∀ w, (sizeOf E).run P w = .ok m w) (hE : ∀ w, (isAgg E).run P w = .ok false w)
    (hx : aEv t x = some (.agg cs)) (hy : aEv t y = some (.int k n)) (h0 : 0 ≤ n) (h1 : n < len) (hq : n.toNat * m = q) (hv : cs.toList[q]? = some v) : PureOk P N ⟨d, .index T x y, ty, pos, af, g⟩ t v :=
  p_index hx hy hT hm hE h0 h1 (by rw [hq]; simpa using hv)
theorem p_len_arr {T : TypeId} {x : Operand} {n : Nat} {E : TypeId} (hT : P.underlying T = some (.array n E)) : PureOk P N ⟨d, .call { callee := .builtin .len, args := #[x], argTypes := #[T] }, ty, pos, af, g⟩ t (.int .i64 n) := by
  intro φ w a he
  exact ⟨.int .i64 n, by simp [execOp, resolve, invoke, builtin, Builtin.len_, run_underlying hT, goInt], .int _ _⟩
end shaped
theorem res_none {P : Program} {N : Nat} {fn : Func} {t : Env} {H : AHeap} (h : fn.results = #[]) : ResOk P N fn t H (.tuple #[]) :=
  fun W φ w a hs he => ⟨.tuple #[], by simp [results, h], V.flat (.tuple _ (fun i v h => by simp at h))⟩

end Go.Proofs.Ytocaepkkaihiiaa.Am
