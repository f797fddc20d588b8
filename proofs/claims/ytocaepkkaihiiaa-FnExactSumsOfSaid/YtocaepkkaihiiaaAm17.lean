/-
  The abstract machine with one outcome: a piece of code comes to one exit, one frame, one memory. And what printed meanings are made of. No condition.
-/
import Derived.Test.YtocaepkkaihiiaaAm16
import Derived.LoopN
namespace Go.Proofs.Ytocaepkkaihiiaa.Am
open Go Go.RowKit
set_option linter.unusedVariables false
set_option linter.unusedSimpArgs false

/-! ### Meanings: plain Lean -/
def chk {α : Type} (p : Prop) [Decidable p] (k : Option α) : Option α := if p then k else none
inductive Lo (S R : Type) where
  | go (s : S)
  | out (r : R)
def loopF {S R : Type} (step : S → Option (Lo S R)) : Nat → S → Option R
  | 0, _ => none
  | n + 1, s => match step s with
    | none => none
    | some (.go s') => loopF step n s'
    | some (.out r) => some r
def in64 (x : Int) : Prop := -9223372036854775808 ≤ x ∧ x ≤ 9223372036854775807
instance (x : Int) : Decidable (in64 x) := inferInstanceAs (Decidable (_ ∧ _))
def inR (i : Int) (n : Nat) : Prop := 0 ≤ i ∧ i < (n : Int)
instance (i : Int) (n : Nat) : Decidable (inR i n) := inferInstanceAs (Decidable (_ ∧ _))

theorem chk_some {α : Type} {p : Prop} [Decidable p] {k : Option α} {a : α} (h : chk p k = some a) : p ∧ k = some a := by
  unfold chk at h; split at h
  · exact ⟨by assumption, h⟩
  · cases h
theorem chk_t {α : Type} {p : Prop} [Decidable p] {k : Option α} (h : p) : chk p k = k := if_pos h
theorem bnd_some {α β : Type} {o : Option α} {f : α → Option β} {b : β} (h : o.bind f = some b) : ∃ a, o = some a ∧ f a = some b := Option.bind_eq_some_iff.1 h
theorem bif_t {α : Type} {c : Bool} {a b r : α} (h : c = true) (k : (bif c then a else b) = r) : a = r := by rw [h] at k; exact k
theorem bif_f {α : Type} {c : Bool} {a b r : α} (h : c = false) (k : (bif c then a else b) = r) : b = r := by rw [h] at k; exact k
theorem some_inj {α : Type} {a b : α} (h : some a = some b) : a = b := Option.some.inj h
theorem loop_go {S R : Type} {step : S → Option (Lo S R)} {n : Nat} {s s' : S} (h : step s = some (.go s')) : loopF step (n + 1) s = loopF step n s' := by rw [loopF, h]
theorem loop_out {S R : Type} {step : S → Option (Lo S R)} {n : Nat} {s : S} {r : R} (h : step s = some (.out r)) : loopF step (n + 1) s = some r := by rw [loopF, h]
theorem inR_lt {i : Int} {n : Nat} (h : inR i n) : i.toNat < n := by unfold inR at h; omega
theorem inR_pos {i : Int} {n : Nat} (h : inR i n) : 0 < n := by unfold inR at h; omega
theorem in64_wr {x : Int} (h : in64 x) : IntKind.i64.wrap x = x := wr64 h.1 h.2

/-! ### One outcome -/
section ax
variable {P : Program} {N : Nat} {ops : Array Oper} {t : Env} {H : AHeap} {Q : Exit → Env → AHeap → Prop}
def Is (e : Exit) (t : Env) (H : AHeap) : Exit → Env → AHeap → Prop := fun e' t' H' => e' = e ∧ t' = t ∧ H' = H
def AX (P : Program) (N : Nat) (c : Code) (t : Env) (H : AHeap) (Q : Exit → Env → AHeap → Prop) : Prop := ∃ e t' H', Q e t' H' ∧ AWp P N c t H (Is e t' H')
def AO (P : Program) (N : Nat) (ops : Array Oper) (l : List Oper) (t : Env) (H : AHeap) (Q : Exit → Env → AHeap → Prop) : Prop := ∃ e t' H', Q e t' H' ∧ AOps P N ops l t H (Is e t' H')
def DX (P : Program) (N : Nat) (l₀ : List Oper) (t₀ : Env) (H₀ : AHeap) (Q : Exit → Env → AHeap → Prop) (l : List Oper) (t : Env) (H : AHeap) (acc : List Ev) : Prop :=
  ∃ t' H', Q .normal t' H' ∧ DTr P N l₀ t₀ H₀ (Is .normal t' H') l t H acc

theorem AX.sub {c : Code} {t' : Env} (hs : Sub t' t) (h : AX P N c t' H Q) : AX P N c t H Q := let ⟨e, t1, H1, hq, hw⟩ := h; ⟨e, t1, H1, hq, hw.sub hs⟩
theorem AX.heap {c : Code} {H' : AHeap} (h : H = H') (hr : AX P N c t H' Q) : AX P N c t H Q := h ▸ hr
theorem AX.mono {c : Code} {Q' : Exit → Env → AHeap → Prop} (hq : ∀ e t H, Q e t H → Q' e t H) (h : AX P N c t H Q) : AX P N c t H Q' := let ⟨e, t1, H1, hq1, hw⟩ := h; ⟨e, t1, H1, hq _ _ _ hq1, hw⟩
theorem AX.seq {x y : Code} (h : AX P N x t H (aThen (fun t' H' => AX P N y t' H' Q) Q)) : AX P N (.seq x y) t H Q := by
  obtain ⟨e, t1, H1, hq, hw⟩ := h
  cases e with
  | normal =>
    obtain ⟨e2, t2, H2, hq2, hw2⟩ := hq
    exact ⟨e2, t2, H2, hq2, AWp.seq (hw.mono (by rintro _ _ _ ⟨rfl, rfl, rfl⟩; exact hw2))⟩
  | _ => exact ⟨_, t1, H1, hq, AWp.seq (hw.mono (by rintro _ _ _ ⟨rfl, rfl, rfl⟩; exact ⟨rfl, rfl, rfl⟩))⟩
theorem AX.skip (h : Q .normal t H) : AX P N .skip t H Q := ⟨_, _, _, h, AWp.skip ⟨rfl, rfl, rfl⟩⟩
theorem AX.ret (h : Q .ret t H) : AX P N .ret t H Q := ⟨_, _, _, h, AWp.ret ⟨rfl, rfl, rfl⟩⟩
theorem AX.exit {id : Nat} (h : Q (.exit id) t H) : AX P N (.exit id) t H Q := ⟨_, _, _, h, AWp.exit ⟨rfl, rfl, rfl⟩⟩
theorem AX.cond {c : Operand} {x y : Code} {b : Bool} (hc : aEv t c = some (.bool b)) (hT : b = true → AX P N x t H Q) (hF : b = false → AX P N y t H Q) : AX P N (.cond c x y) t H Q := by
  cases b with
  | true => obtain ⟨e, t1, H1, hq, hw⟩ := hT rfl; exact ⟨e, t1, H1, hq, AWp.cond hc (fun _ => hw) (fun h => nomatch h)⟩
  | false => obtain ⟨e, t1, H1, hq, hw⟩ := hF rfl; exact ⟨e, t1, H1, hq, AWp.cond hc (fun h => nomatch h) (fun _ => hw)⟩
theorem AX.block {id : Nat} {c : Code} (h : AX P N c t H (aBlock id Q)) : AX P N (.block id c) t H Q := by
  obtain ⟨e, t1, H1, hq, hw⟩ := h
  cases e with
  | exit id' =>
    cases hb : Nat.beq id' id with
    | true =>
      simp only [aBlock, hb] at hq
      exact ⟨_, t1, H1, hq, AWp.block (hw.mono (by rintro _ _ _ ⟨rfl, rfl, rfl⟩; simp only [aBlock, hb]; exact ⟨rfl, rfl, rfl⟩))⟩
    | false =>
      simp only [aBlock, hb] at hq
      exact ⟨_, t1, H1, hq, AWp.block (hw.mono (by rintro _ _ _ ⟨rfl, rfl, rfl⟩; simp only [aBlock, hb]; exact ⟨rfl, rfl, rfl⟩))⟩
  | _ => exact ⟨_, t1, H1, hq, AWp.block (hw.mono (by rintro _ _ _ ⟨rfl, rfl, rfl⟩; exact ⟨rfl, rfl, rfl⟩))⟩
theorem AX.cut {x y : Code} (M : Env → AHeap → Prop) (h1 : AX P N x t H (aThen M Q)) (h2 : ∀ t' H', M t' H' → AX P N y t' H' Q) : AX P N (.seq x y) t H Q :=
  AX.seq (h1.mono fun e t' H' h => by cases e <;> first | exact h2 _ _ h | exact h)
theorem AX.cutQ {x : Code} (M : Env → AHeap → Prop) (h1 : AX P N x t H (aThen M Q)) (h2 : ∀ t' H', M t' H' → Q .normal t' H') : AX P N x t H Q :=
  h1.mono fun e t' H' h => by cases e <;> first | exact h2 _ _ h | exact h

def AR (P : Program) (N : Nat) (c : Code) (Q : Exit → Env → AHeap → Prop) : Nat → Env → AHeap → Prop
  | 0, _, _ => False
  | n + 1, t, H => AWp P N c t H (aThen (AR P N c Q n) Q)
theorem AWp.rounds {c : Code} (n : Nat) (h : AR P N c Q n t H) : AWp P N (.loop c) t H Q := by
  intro W φ₀ H₀ w₀ dfr φ w a hs he hst hdf
  refine wp_loop_rounds n ?_
  induction n generalizing t H φ w a with
  | zero => exact h.elim
  | succ n ih =>
    rw [rounds_succ]
    refine wp_mono (h W φ₀ H₀ w₀ dfr φ w a hs he hst hdf) ?_
    rintro e a' w' ⟨hd, φ', t', H', h1, h2, h3, h4⟩
    cases e with
    | normal => exact ih h4 φ' w' a' h1 h2 h3 hd
    | _ => exact ⟨hd, φ', t', H', h1, h2, h3, h4⟩
/-- A loop and the meaning of its round. -/
theorem AX.loopF {S R : Type} {c : Code} {step : S → Option (Lo S R)} {r : R} (I : S → Env → AHeap → Prop) {n : Nat} {s : S} (hn : Am.loopF step n s = some r) (hI : I s t H)
    (round : ∀ n s t H, I s t H → ∀ o, step s = some o → (match o with | .go s' => Am.loopF step n s' = some r | .out r' => r' = r) → AX P N c t H (aThen (fun t' H' => ∃ s', Am.loopF step n s' = some r ∧ I s' t' H') Q)) : AX P N (.loop c) t H Q := by
  have key : ∃ e t' H', Q e t' H' ∧ ∃ m, AR P N c (Is e t' H') m t H := by
    induction n generalizing s t H with
    | zero => cases hn
    | succ n ih =>
      obtain ⟨o, ho, hk⟩ : ∃ o, step s = some o ∧ (match o with | .go s' => Am.loopF step n s' = some r | .out r' => r' = r) := by
        unfold Am.loopF at hn
        split at hn
        · cases hn
        · exact ⟨_, by assumption, hn⟩
        · exact ⟨_, by assumption, Option.some.inj hn⟩
      obtain ⟨e, t1, H1, hq, hw⟩ := round n s t H hI o ho hk
      cases e with
      | normal =>
        obtain ⟨s', hs', hI'⟩ := hq
        obtain ⟨e2, t2, H2, hq2, m, hm⟩ := ih hs' hI'
        exact ⟨e2, t2, H2, hq2, m + 1, hw.mono (by rintro _ _ _ ⟨rfl, rfl, rfl⟩; exact hm)⟩
      | _ => exact ⟨_, t1, H1, hq, 1, hw.mono (by rintro _ _ _ ⟨rfl, rfl, rfl⟩; exact ⟨rfl, rfl, rfl⟩)⟩
  obtain ⟨e, t1, H1, hq, m, hm⟩ := key
  exact ⟨e, t1, H1, hq, AWp.rounds m hm⟩

theorem AX.region {id : Nat} {l : List Oper} (h : AO P N l.toArray l t H Q) : AX P N (.region id l.toArray false) t H Q := let ⟨e, t1, H1, hq, hw⟩ := h; ⟨e, t1, H1, hq, AWp.region hw⟩
theorem AO.nil (h : Q .normal t H) : AO P N ops [] t H Q := ⟨_, _, _, h, AOps.nil ⟨rfl, rfl, rfl⟩⟩
theorem AO.heap {l : List Oper} {H' : AHeap} (h : H = H') (hr : AO P N ops l t H' Q) : AO P N ops l t H Q := h ▸ hr
theorem AO.cases {l : List Oper} {d : Nat} {b : Bool} (h : eget t d = some (.bool b)) (hT : b = true → AO P N ops l ((d, .bool true) :: t) H Q) (hF : b = false → AO P N ops l ((d, .bool false) :: t) H Q) : AO P N ops l t H Q := by
  cases b with
  | true => obtain ⟨e, t1, H1, hq, hw⟩ := hT rfl; exact ⟨e, t1, H1, hq, AOps.cases h (fun _ => hw) (fun h => nomatch h)⟩
  | false => obtain ⟨e, t1, H1, hq, hw⟩ := hF rfl; exact ⟨e, t1, H1, hq, AOps.cases h (fun h => nomatch h) (fun _ => hw)⟩
theorem AO.c {d : Nat} {op : Op} {ty : TypeId} {pos : String} {af : Array Edge} {rest : List Oper} {v : Value} {H' : AHeap} (hd : Nat.blt d N = true) (h : OpOk P N ⟨some d, op, ty, pos, af, none⟩ t H v H')
    (hr : AO P N ops rest ((d, v) :: t) H' Q) : AO P N ops (⟨some d, op, ty, pos, af, none⟩ :: rest) t H Q := let ⟨e, t1, H1, hq, hw⟩ := hr; ⟨e, t1, H1, hq, AOps.c hd h hw⟩
theorem AO.p {d : Nat} {op : Op} {ty : TypeId} {pos : String} {af : Array Edge} {rest : List Oper} {v : Value} (hd : Nat.blt d N = true) (h : PureOk P N ⟨some d, op, ty, pos, af, none⟩ t v)
    (hr : AO P N ops rest ((d, v) :: t) H Q) : AO P N ops (⟨some d, op, ty, pos, af, none⟩ :: rest) t H Q := let ⟨e, t1, H1, hq, hw⟩ := hr; ⟨e, t1, H1, hq, AOps.p hd h hw⟩
theorem AO.s {op : Op} {ty : TypeId} {pos : String} {af : Array Edge} {rest : List Oper} {v : Value} {H' : AHeap} (h : OpOk P N ⟨none, op, ty, pos, af, none⟩ t H v H')
    (hr : AO P N ops rest t H' Q) : AO P N ops (⟨none, op, ty, pos, af, none⟩ :: rest) t H Q := let ⟨e, t1, H1, hq, hw⟩ := hr; ⟨e, t1, H1, hq, AOps.s h hw⟩
theorem AO.gc {d j e : Nat} {want : Bool} {op : Op} {ty : TypeId} {pos : String} {af : Array Edge} {rest : List Oper} {v : Value} {H' : AHeap} (hj : (ops[j]?).bind (·.dst) = some e) (hb : eget t e = some (.bool want)) (hd : Nat.blt d N = true)
    (h : OpOk P N ⟨some d, op, ty, pos, af, some (j, want)⟩ t H v H') (hr : AO P N ops rest ((d, v) :: t) H' Q) : AO P N ops (⟨some d, op, ty, pos, af, some (j, want)⟩ :: rest) t H Q := let ⟨e, t1, H1, hq, hw⟩ := hr; ⟨e, t1, H1, hq, AOps.gc hj hb hd h hw⟩
theorem AO.gp {d j e : Nat} {want : Bool} {op : Op} {ty : TypeId} {pos : String} {af : Array Edge} {rest : List Oper} {v : Value} (hj : (ops[j]?).bind (·.dst) = some e) (hb : eget t e = some (.bool want)) (hd : Nat.blt d N = true)
    (h : PureOk P N ⟨some d, op, ty, pos, af, some (j, want)⟩ t v) (hr : AO P N ops rest ((d, v) :: t) H Q) : AO P N ops (⟨some d, op, ty, pos, af, some (j, want)⟩ :: rest) t H Q := let ⟨e, t1, H1, hq, hw⟩ := hr; ⟨e, t1, H1, hq, AOps.gp hj hb hd h hw⟩
theorem AO.gn {d j e : Nat} {want : Bool} {op : Op} {ty : TypeId} {pos : String} {af : Array Edge} {rest : List Oper} (hj : (ops[j]?).bind (·.dst) = some e) (hb : eget t e = some (.bool (!want))) (hd : Nat.blt d N = true)
    (hr : AO P N ops rest ((d, undef) :: t) H Q) : AO P N ops (⟨some d, op, ty, pos, af, some (j, want)⟩ :: rest) t H Q := let ⟨e, t1, H1, hq, hw⟩ := hr; ⟨e, t1, H1, hq, AOps.gn hj hb hd hw⟩
theorem AO.gu {d j e : Nat} {want : Bool} {op : Op} {ty : TypeId} {pos : String} {af : Array Edge} {rest : List Oper} (hj : (ops[j]?).bind (·.dst) = some e) (hb : eget t e = some undef) (hd : Nat.blt d N = true)
    (hr : AO P N ops rest ((d, undef) :: t) H Q) : AO P N ops (⟨some d, op, ty, pos, af, some (j, want)⟩ :: rest) t H Q := let ⟨e, t1, H1, hq, hw⟩ := hr; ⟨e, t1, H1, hq, AOps.gu hj hb hd hw⟩
end ax

section dx
variable {P : Program} {N : Nat} {l₀ : List Oper} {t₀ : Env} {H₀ : AHeap} {Q : Exit → Env → AHeap → Prop} {l : List Oper} {t : Env} {H : AHeap} {acc : List Ev}
variable {d : Nat} {op : Op} {ty : TypeId} {pos : String} {af : Array Edge} {v : Value}
theorem DX.start {id : Nat} (hm : P.follows .mixedOrders = true) (h : DX P N l t H Q l t H []) : AX P N (.region id l.toArray true) t H Q := let ⟨t1, H1, hq, hw⟩ := h; ⟨_, t1, H1, hq, DTr.start hm hw⟩
theorem DX.nil (st : staticOk l₀ l₀.toArray (acc.map (·.kd.isWrite)) = true) (dyn : dynOk l₀ acc) (h : Q .normal t H) : DX P N l₀ t₀ H₀ Q [] t H acc := ⟨t, H, h, DTr.nil ⟨st, dyn, ⟨rfl, rfl, rfl⟩⟩⟩
theorem DX.p (hd : Nat.blt d N = true) (hs : noSel op = true) (h : PureOk P N ⟨some d, op, ty, pos, af, none⟩ (restr (Oper.looksAt l₀.toArray ⟨some d, op, ty, pos, af, none⟩) t) v)
    (k : DX P N l₀ t₀ H₀ Q l ((d, v) :: t) H (acc ++ [⟨.pure, v, H, H⟩])) : DX P N l₀ t₀ H₀ Q (⟨some d, op, ty, pos, af, none⟩ :: l) t H acc := let ⟨t1, H1, hq, hw⟩ := k; ⟨t1, H1, hq, DTr.p hd hs h hw⟩
theorem DX.pb {b : Bool} (hd : Nat.blt d N = true) (hs : noSel op = true) (h : PureOk P N ⟨some d, op, ty, pos, af, none⟩ (restr (Oper.looksAt l₀.toArray ⟨some d, op, ty, pos, af, none⟩) t) (.bool b))
    (kT : b = true → DX P N l₀ t₀ H₀ Q l ((d, .bool true) :: t) H (acc ++ [⟨.pure, .bool true, H, H⟩])) (kF : b = false → DX P N l₀ t₀ H₀ Q l ((d, .bool false) :: t) H (acc ++ [⟨.pure, .bool false, H, H⟩])) :
    DX P N l₀ t₀ H₀ Q (⟨some d, op, ty, pos, af, none⟩ :: l) t H acc := by
  cases b with
  | true => exact DX.p hd hs h (kT rfl)
  | false => exact DX.p hd hs h (kF rfl)
theorem DX.gp {j e : Nat} {want : Bool} (hj : (l₀.toArray[j]?).bind (·.dst) = some e) (hb : eget (restr (Oper.looksAt l₀.toArray ⟨some d, op, ty, pos, af, some (j, want)⟩) t) e = some (.bool want)) (hd : Nat.blt d N = true) (hs : noSel op = true)
    (h : PureOk P N ⟨some d, op, ty, pos, af, some (j, want)⟩ (restr (Oper.looksAt l₀.toArray ⟨some d, op, ty, pos, af, some (j, want)⟩) t) v)
    (k : DX P N l₀ t₀ H₀ Q l ((d, v) :: t) H (acc ++ [⟨.pure, v, H, H⟩])) : DX P N l₀ t₀ H₀ Q (⟨some d, op, ty, pos, af, some (j, want)⟩ :: l) t H acc := let ⟨t1, H1, hq, hw⟩ := k; ⟨t1, H1, hq, DTr.gp hj hb hd hs h hw⟩
theorem DX.gpb {j e : Nat} {want b : Bool} (hj : (l₀.toArray[j]?).bind (·.dst) = some e) (hb : eget (restr (Oper.looksAt l₀.toArray ⟨some d, op, ty, pos, af, some (j, want)⟩) t) e = some (.bool want)) (hd : Nat.blt d N = true) (hs : noSel op = true)
    (h : PureOk P N ⟨some d, op, ty, pos, af, some (j, want)⟩ (restr (Oper.looksAt l₀.toArray ⟨some d, op, ty, pos, af, some (j, want)⟩) t) (.bool b))
    (kT : b = true → DX P N l₀ t₀ H₀ Q l ((d, .bool true) :: t) H (acc ++ [⟨.pure, .bool true, H, H⟩])) (kF : b = false → DX P N l₀ t₀ H₀ Q l ((d, .bool false) :: t) H (acc ++ [⟨.pure, .bool false, H, H⟩])) :
    DX P N l₀ t₀ H₀ Q (⟨some d, op, ty, pos, af, some (j, want)⟩ :: l) t H acc := by
  cases b with
  | true => exact DX.gp hj hb hd hs h (kT rfl)
  | false => exact DX.gp hj hb hd hs h (kF rfl)
theorem DX.gn {j e : Nat} {want : Bool} (hj : (l₀.toArray[j]?).bind (·.dst) = some e) (hb : eget (restr (Oper.looksAt l₀.toArray ⟨some d, op, ty, pos, af, some (j, want)⟩) t) e = some (.bool (!want))) (hd : Nat.blt d N = true) (hs : noSel op = true)
    (k : DX P N l₀ t₀ H₀ Q l ((d, undef) :: t) H (acc ++ [⟨.skip, undef, H, H⟩])) : DX P N l₀ t₀ H₀ Q (⟨some d, op, ty, pos, af, some (j, want)⟩ :: l) t H acc := let ⟨t1, H1, hq, hw⟩ := k; ⟨t1, H1, hq, DTr.gn hj hb hd hs hw⟩
theorem DX.gu {j e : Nat} {want : Bool} (hj : (l₀.toArray[j]?).bind (·.dst) = some e) (hb : eget (restr (Oper.looksAt l₀.toArray ⟨some d, op, ty, pos, af, some (j, want)⟩) t) e = some undef) (hd : Nat.blt d N = true) (hs : noSel op = true)
    (k : DX P N l₀ t₀ H₀ Q l ((d, undef) :: t) H (acc ++ [⟨.skip, undef, H, H⟩])) : DX P N l₀ t₀ H₀ Q (⟨some d, op, ty, pos, af, some (j, want)⟩ :: l) t H acc := let ⟨t1, H1, hq, hw⟩ := k; ⟨t1, H1, hq, DTr.gu hj hb hd hs hw⟩
theorem DX.r {cs : List (Nat × Nat × Value)} (hd : Nat.blt d N = true) (hs : noSel op = true) (h : ROk P N ⟨some d, op, ty, pos, af, none⟩ (restr (Oper.looksAt l₀.toArray ⟨some d, op, ty, pos, af, none⟩) t) cs v)
    (hc : ∀ c ∈ cs, hcell H c.1 c.2.1 = some c.2.2 ∧ Bel H.length c.2.2)
    (k : DX P N l₀ t₀ H₀ Q l ((d, v) :: t) H (acc ++ [⟨.read cs, v, H, H⟩])) : DX P N l₀ t₀ H₀ Q (⟨some d, op, ty, pos, af, none⟩ :: l) t H acc := let ⟨t1, H1, hq, hw⟩ := k; ⟨t1, H1, hq, DTr.r hd hs h hc hw⟩
theorem DX.gr {j e : Nat} {want : Bool} {cs : List (Nat × Nat × Value)} (hj : (l₀.toArray[j]?).bind (·.dst) = some e) (hb : eget (restr (Oper.looksAt l₀.toArray ⟨some d, op, ty, pos, af, some (j, want)⟩) t) e = some (.bool want)) (hd : Nat.blt d N = true) (hs : noSel op = true)
    (h : ROk P N ⟨some d, op, ty, pos, af, some (j, want)⟩ (restr (Oper.looksAt l₀.toArray ⟨some d, op, ty, pos, af, some (j, want)⟩) t) cs v)
    (hc : ∀ c ∈ cs, hcell H c.1 c.2.1 = some c.2.2 ∧ Bel H.length c.2.2)
    (k : DX P N l₀ t₀ H₀ Q l ((d, v) :: t) H (acc ++ [⟨.read cs, v, H, H⟩])) : DX P N l₀ t₀ H₀ Q (⟨some d, op, ty, pos, af, some (j, want)⟩ :: l) t H acc := let ⟨t1, H1, hq, hw⟩ := k; ⟨t1, H1, hq, DTr.gr hj hb hd hs h hc hw⟩
theorem DX.a {cells : List Value} {i : Nat} {H' : AHeap} (hd : Nat.blt d N = true) (hs : noSel op = true) (hi : H.length = i) (hH : H ++ [AObj.row false cells] = H') (h : AOk P N ⟨some d, op, ty, pos, af, none⟩ (restr (Oper.looksAt l₀.toArray ⟨some d, op, ty, pos, af, none⟩) t) cells i v)
    (k : DX P N l₀ t₀ H₀ Q l ((d, v) :: t) H' (acc ++ [⟨.alloc cells, v, H, H'⟩])) : DX P N l₀ t₀ H₀ Q (⟨some d, op, ty, pos, af, none⟩ :: l) t H acc := let ⟨t1, H1, hq, hw⟩ := k; ⟨t1, H1, hq, DTr.aI hd hs hi hH h hw⟩
theorem DX.w {H' : AHeap} (hd : Nat.blt d N = true) (hs : noSel op = true) (h : OpOk P N ⟨some d, op, ty, pos, af, none⟩ (restr (Oper.looksAt l₀.toArray ⟨some d, op, ty, pos, af, none⟩) t) H v H') (hl : H.length ≤ H'.length)
    (k : DX P N l₀ t₀ H₀ Q l ((d, v) :: t) H' (acc ++ [⟨.write, v, H, H'⟩])) : DX P N l₀ t₀ H₀ Q (⟨some d, op, ty, pos, af, none⟩ :: l) t H acc := let ⟨t1, H1, hq, hw⟩ := k; ⟨t1, H1, hq, DTr.w hd hs h hl hw⟩
theorem DX.wb {b : Bool} {H' : AHeap} (hd : Nat.blt d N = true) (hs : noSel op = true) (h : OpOk P N ⟨some d, op, ty, pos, af, none⟩ (restr (Oper.looksAt l₀.toArray ⟨some d, op, ty, pos, af, none⟩) t) H (.bool b) H') (hl : H.length ≤ H'.length)
    (kT : b = true → DX P N l₀ t₀ H₀ Q l ((d, .bool true) :: t) H' (acc ++ [⟨.write, .bool true, H, H'⟩])) (kF : b = false → DX P N l₀ t₀ H₀ Q l ((d, .bool false) :: t) H' (acc ++ [⟨.write, .bool false, H, H'⟩])) :
    DX P N l₀ t₀ H₀ Q (⟨some d, op, ty, pos, af, none⟩ :: l) t H acc := by
  cases b with
  | true => exact DX.w hd hs h hl (kT rfl)
  | false => exact DX.w hd hs h hl (kF rfl)
theorem DX.gw {j e : Nat} {want : Bool} {H' : AHeap} (hj : (l₀.toArray[j]?).bind (·.dst) = some e) (hb : eget (restr (Oper.looksAt l₀.toArray ⟨some d, op, ty, pos, af, some (j, want)⟩) t) e = some (.bool want)) (hd : Nat.blt d N = true) (hs : noSel op = true)
    (h : OpOk P N ⟨some d, op, ty, pos, af, some (j, want)⟩ (restr (Oper.looksAt l₀.toArray ⟨some d, op, ty, pos, af, some (j, want)⟩) t) H v H') (hl : H.length ≤ H'.length)
    (k : DX P N l₀ t₀ H₀ Q l ((d, v) :: t) H' (acc ++ [⟨.write, v, H, H'⟩])) : DX P N l₀ t₀ H₀ Q (⟨some d, op, ty, pos, af, some (j, want)⟩ :: l) t H acc := let ⟨t1, H1, hq, hw⟩ := k; ⟨t1, H1, hq, DTr.gw hj hb hd hs h hl hw⟩
theorem DX.s {H' : AHeap} (hs : noSel op = true) (h : OpOk P N ⟨none, op, ty, pos, af, none⟩ (restr (Oper.looksAt l₀.toArray ⟨none, op, ty, pos, af, none⟩) t) H v H') (hl : H.length ≤ H'.length)
    (k : DX P N l₀ t₀ H₀ Q l t H' (acc ++ [⟨.write, v, H, H'⟩])) : DX P N l₀ t₀ H₀ Q (⟨none, op, ty, pos, af, none⟩ :: l) t H acc := let ⟨t1, H1, hq, hw⟩ := k; ⟨t1, H1, hq, DTr.s hs h hl hw⟩
end dx

theorem ACall.bodyX {P : Program} {f : FuncId} {fn : Func} {c : Code} {args : List Value} {H : AHeap} {N : Nat} (t : Env) (Post : Value → AHeap → Prop) (hf : P.funcs[f]? = some fn) (hb : fn.body = some c)
    (hN : fn.ntmps = N) (hle : Nat.ble args.length N = true) (ht : envOf args = t) (h : AX P N c t H (fun ex t' H' => (ex = .normal ∨ ex = .ret) ∧ ∃ v, ResOk P N fn t' H' v ∧ Post v H')) : ∃ v H', ACall P f args H v H' ∧ Post v H' := by
  obtain ⟨e, t1, H1, ⟨he, v, hr, hp⟩, hw⟩ := h
  exact ⟨v, H1, ACall.body t hf hb hN hle ht (hw.mono (by rintro _ _ _ ⟨rfl, rfl, rfl⟩; exact ⟨he, v, hr, Fin.refl _ _ _⟩)), hp⟩
theorem ACall.bodyP {P : Program} {f : FuncId} {fn : Func} {c : Code} {args : List Value} {H : AHeap} {v : Value} {N : Nat} (t : Env) (hf : P.funcs[f]? = some fn) (hb : fn.body = some c)
    (hN : fn.ntmps = N) (hle : Nat.ble args.length N = true) (ht : envOf args = t) (h : AX P N c t H (fun ex t' H' => (ex = .normal ∨ ex = .ret) ∧ ∃ u, ResOk P N fn t' H' u ∧ u = v ∧ Flat v ∧ ∀ i, i < H.length → hget H' i = hget H i)) : ACall P f args H v H := by
  obtain ⟨e, t1, H1, ⟨he, u, hr, rfl, hfl, hk⟩, hw⟩ := h
  exact ACall.body t hf hb hN hle ht (hw.mono (by rintro _ _ _ ⟨rfl, rfl, rfl⟩; exact ⟨he, u, hr, Fin.drop hfl hk⟩))
end Go.Proofs.Ytocaepkkaihiiaa.Am
