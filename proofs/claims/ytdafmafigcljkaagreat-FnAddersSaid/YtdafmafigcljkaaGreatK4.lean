
/-
  The abstract machine, texts joined: Am17, Am18, Am19, Am20. No condition.
-/
import Derived.Test.YtdafmafigcljkaaGreatK3
import Derived.LoopN
/-
  The abstract machine with one outcome: a piece of code comes to one exit, one frame, one memory. And what printed meanings are made of. No condition.
-/
namespace Go.Proofs.YtdafmafigcljkaaGreat.Am
open Go Go.RowKit
set_option linter.unusedVariables false
set_option linter.unusedSimpArgs false
def chk {α : Type} (p : Prop) [Decidable p] (k : Option α) : Option α := if p then k else none
inductive Lo (S R : Type) where
  | go (s : S)
  | out (r : R)
def loopF {S R : Type} (step : S → Option (Lo S R)) : Nat → S → Option R
  | 0, _ => none
  | n + 1, s => match step s with
    | none => none
    | some (.go s') => loopF step n s'
    | some (.out r) => some r
def in64 (x : Int) : Prop := -9223372036854775808 ≤ x ∧ x ≤ 9223372036854775807
instance (x : Int) : Decidable (in64 x) := inferInstanceAs (Decidable (_ ∧ _))
def inR (i : Int) (n : Nat) : Prop := 0 ≤ i ∧ i < (n : Int)
instance (i : Int) (n : Nat) : Decidable (inR i n) := inferInstanceAs (Decidable (_ ∧ _))
theorem chk_some {α : Type} {p : Prop} [Decidable p] {k : Option α} {a : α} (h : chk p k = some a) : p ∧ k = some a := by
  unfold chk at h; split at h
  · exact ⟨by assumption, h⟩
  · cases h
theorem chk_t {α : Type} {p : Prop} [Decidable p] {k : Option α} (h : p) : chk p k = k := if_pos h
theorem bnd_some {α β : Type} {o : Option α} {f : α → Option β} {b : β} (h : o.bind f = some b) : ∃ a, o = some a ∧ f a = some b := Option.bind_eq_some_iff.1 h
theorem bif_t {α : Type} {c : Bool} {a b r : α} (h : c = true) (k : (bif c then a else b) = r) : a = r := by rw [h] at k; exact k
theorem bif_f {α : Type} {c : Bool} {a b r : α} (h : c = false) (k : (bif c then a else b) = r) : b = r := by rw [h] at k; exact k
theorem some_inj {α : Type} {a b : α} (h : some a = some b) : a = b := Option.some.inj h
theorem loop_go {S R : Type} {step : S → Option (Lo S R)} {n : Nat} {s s' : S} (h : step s = some (.go s')) : loopF step (n + 1) s = loopF step n s' := by rw [loopF, h]
theorem loop_out {S R : Type} {step : S → Option (Lo S R)} {n : Nat} {s : S} {r : R} (h : step s = some (.out r)) : loopF step (n + 1) s = some r := by rw [loopF, h]
theorem inR_lt {i : Int} {n : Nat} (h : inR i n) : i.toNat < n := by unfold inR at h; omega
theorem inR_pos {i : Int} {n : Nat} (h : inR i n) : 0 < n := by unfold inR at h; omega
theorem in64_wr {x : Int} (h : in64 x) : IntKind.i64.wrap x = x := wr64 h.1 h.2
section ax
variable {P : Program} {N : Nat} {ops : Array Oper} {t : Env} {H : AHeap} {Q : Exit → Env → AHeap → Prop}
def Is (e : Exit) (t : Env) (H : AHeap) : Exit → Env → AHeap → Prop := fun e' t' H' => e' = e ∧ t' = t ∧ H' = H
def AX (P : Program) (N : Nat) (c : Code) (t : Env) (H : AHeap) (Q : Exit → Env → AHeap → Prop) : Prop := ∃ e t' H', Q e t' H' ∧ AWp P N c t H (Is e t' H')
def AO (P : Program) (N : Nat) (ops : Array Oper) (l : List Oper) (t : Env) (H : AHeap) (Q : Exit → Env → AHeap → Prop) : Prop := ∃ e t' H', Q e t' H' ∧ AOps P N ops l t H (Is e t' H')
def DX (P : Program) (N : Nat) (l₀ : List Oper) (t₀ : Env) (H₀ : AHeap) (Q : Exit → Env → AHeap → Prop) (l : List Oper) (t : Env) (H : AHeap) (acc : List Ev) : Prop :=
  ∃ t' H', Q .normal t' H' ∧ DTr P N l₀ t₀ H₀ (Is .normal t' H') l t H acc
theorem AX.sub {c : Code} {t' : Env} (hs : Sub t' t) (h : AX P N c t' H Q) : AX P N c t H Q := let ⟨e, t1, H1, hq, hw⟩ := h; ⟨e, t1, H1, hq, hw.sub hs⟩
theorem AX.mono {c : Code} {Q' : Exit → Env → AHeap → Prop} (hq : ∀ e t H, Q e t H → Q' e t H) (h : AX P N c t H Q) : AX P N c t H Q' := let ⟨e, t1, H1, hq1, hw⟩ := h; ⟨e, t1, H1, hq _ _ _ hq1, hw⟩
theorem AX.seq {x y : Code} (h : AX P N x t H (aThen (fun t' H' => AX P N y t' H' Q) Q)) : AX P N (.seq x y) t H Q := by
  obtain ⟨e, t1, H1, hq, hw⟩ := h
  cases e with
  | normal =>
    obtain ⟨e2, t2, H2, hq2, hw2⟩ := hq
    exact ⟨e2, t2, H2, hq2, AWp.seq (hw.mono (by rintro _ _ _ ⟨rfl, rfl, rfl⟩; exact hw2))⟩
  | _ => exact ⟨_, t1, H1, hq, AWp.seq (hw.mono (by rintro _ _ _ ⟨rfl, rfl, rfl⟩; exact ⟨rfl, rfl, rfl⟩))⟩
theorem AX.skip (h : Q .normal t H) : AX P N .skip t H Q := ⟨_, _, _, h, AWp.skip ⟨rfl, rfl, rfl⟩⟩
theorem AX.ret (h : Q .ret t H) : AX P N .ret t H Q := ⟨_, _, _, h, AWp.ret ⟨rfl, rfl, rfl⟩⟩
theorem AX.exit {id : Nat} (h : Q (.exit id) t H) : AX P N (.exit id) t H Q := ⟨_, _, _, h, AWp.exit ⟨rfl, rfl, rfl⟩⟩
theorem AX.cond {c : Operand} {x y : Code} {b : Bool} (hc : aEv t c = some (.bool b)) (hT : b = true → AX P N x t H Q) (hF : b = false → AX P N y t H Q) : AX P N (.cond c x y) t H Q := by
  cases b with
  | true => obtain ⟨e, t1, H1, hq, hw⟩ := hT rfl; exact ⟨e, t1, H1, hq, AWp.cond hc (fun _ => hw) (fun h => nomatch h)⟩
  | false => obtain ⟨e, t1, H1, hq, hw⟩ := hF rfl; exact ⟨e, t1, H1, hq, AWp.cond hc (fun h => nomatch h) (fun _ => hw)⟩
theorem AX.block {id : Nat} {c : Code} (h : AX P N c t H (aBlock id Q)) : AX P N (.block id c) t H Q := by
  obtain ⟨e, t1, H1, hq, hw⟩ := h
  cases e with
  | exit id' =>
    cases hb : Nat.beq id' id with
    | true =>
      simp only [aBlock, hb] at hq
      exact ⟨_, t1, H1, hq, AWp.block (hw.mono (by rintro _ _ _ ⟨rfl, rfl, rfl⟩; simp only [aBlock, hb]; exact ⟨rfl, rfl, rfl⟩))⟩
    | false =>
      simp only [aBlock, hb] at hq
      exact ⟨_, t1, H1, hq, AWp.block (hw.mono (by rintro _ _ _ ⟨rfl, rfl, rfl⟩; simp only [aBlock, hb]; exact ⟨rfl, rfl, rfl⟩))⟩
  | _ => exact ⟨_, t1, H1, hq, AWp.block (hw.mono (by rintro _ _ _ ⟨rfl, rfl, rfl⟩; exact ⟨rfl, rfl, rfl⟩))⟩
theorem AX.cut {x y : Code} (M : Env → AHeap → Prop) (h1 : AX P N x t H (aThen M Q)) (h2 : ∀ t' H', M t' H' → AX P N y t' H' Q) : AX P N (.seq x y) t H Q :=
  AX.seq (h1.mono fun e t' H' h => by cases e <;> first | exact h2 _ _ h | exact h)
def AR (P : Program) (N : Nat) (c : Code) (Q : Exit → Env → AHeap → Prop) : Nat → Env → AHeap → Prop
  | 0, _, _ => False
  | n + 1, t, H => AWp P N c t H (aThen (AR P N c Q n) Q)
theorem AWp.rounds {c : Code} (n : Nat) (h : AR P N c Q n t H) : AWp P N (.loop c) t H Q := by
  intro W φ₀ H₀ w₀ dfr φ w a hs he hst hdf
  refine wp_loop_rounds n ?_
  induction n generalizing t H φ w a with
  | zero => exact h.elim
  | succ n ih =>
    rw [rounds_succ]
    refine wp_mono (h W φ₀ H₀ w₀ dfr φ w a hs he hst hdf) ?_
    rintro e a' w' ⟨hd, φ', t', H', h1, h2, h3, h4⟩
    cases e with
    | normal => exact ih h4 φ' w' a' h1 h2 h3 hd
    | _ => exact ⟨hd, φ', t', H', h1, h2, h3, h4⟩
theorem AX.loopF {S R : Type} {c : Code} {step : S → Option (Lo S R)} {r : R} (I : S → Env → AHeap → Prop) {n : Nat} {s : S} (hn : Am.loopF step n s = some r) (hI : I s t H)
    (round : ∀ n s t H, I s t H → ∀ o, step s = some o → (match o with | .go s' => Am.loopF step n s' = some r | .out r' => r' = r) → AX P N c t H (aThen (fun t' H' => ∃ s', Am.loopF step n s' = some r ∧ I s' t' H') Q)) : AX P N (.loop c) t H Q := by
  have key : ∃ e t' H', Q e t' H' ∧ ∃ m, AR P N c (Is e t' H') m t H := by
    induction n generalizing s t H with
    | zero => cases hn
    | succ n ih =>
      obtain ⟨o, ho, hk⟩ : ∃ o, step s = some o ∧ (match o with | .go s' => Am.loopF step n s' = some r | .out r' => r' = r) := by
        unfold Am.loopF at hn
        split at hn
        · cases hn
        · exact ⟨_, by assumption, hn⟩
        · exact ⟨_, by assumption, Option.some.inj hn⟩
      obtain ⟨e, t1, H1, hq, hw⟩ := round n s t H hI o ho hk
      cases e with
      | normal =>
        obtain ⟨s', hs', hI'⟩ := hq
        obtain ⟨e2, t2, H2, hq2, m, hm⟩ := ih hs' hI'
        exact ⟨e2, t2, H2, hq2, m + 1, hw.mono (by rintro _ _ _ ⟨rfl, rfl, rfl⟩; exact hm)⟩
      | _ => exact ⟨_, t1, H1, hq, 1, hw.mono (by rintro _ _ _ ⟨rfl, rfl, rfl⟩; exact ⟨rfl, rfl, rfl⟩)⟩
  obtain ⟨e, t1, H1, hq, m, hm⟩ := key
  exact ⟨e, t1, H1, hq, AWp.rounds m hm⟩
theorem AX.region {id : Nat} {l : List Oper} (h : AO P N l.toArray l t H Q) : AX P N (.region id l.toArray false) t H Q := let ⟨e, t1, H1, hq, hw⟩ := h; ⟨e, t1, H1, hq, AWp.region hw⟩
theorem AO.nil (h : Q .normal t H) : AO P N ops [] t H Q := ⟨_, _, _, h, AOps.nil ⟨rfl, rfl, rfl⟩⟩
theorem AO.cases {l : List Oper} {d : Nat} {b : Bool} (h : eget t d = some (.bool b)) (hT : b = true → AO P N ops l ((d, .bool true) :: t) H Q) (hF : b = false → AO P N ops l ((d, .bool false) :: t) H Q) : AO P N ops l t H Q := by
  cases b with
  | true => obtain ⟨e, t1, H1, hq, hw⟩ := hT rfl; exact ⟨e, t1, H1, hq, AOps.cases h (fun _ => hw) (fun h => nomatch h)⟩
  | false => obtain ⟨e, t1, H1, hq, hw⟩ := hF rfl; exact ⟨e, t1, H1, hq, AOps.cases h (fun h => nomatch h) (fun _ => hw)⟩
theorem AO.c {d : Nat} {op : Op} {ty : TypeId} {pos : String} {af : Array Edge} {rest : List Oper} {v : Value} {H' : AHeap} (hd : Nat.blt d N = true) (h : OpOk P N ⟨some d, op, ty, pos, af, none⟩ t H v H')
    (hr : AO P N ops rest ((d, v) :: t) H' Q) : AO P N ops (⟨some d, op, ty, pos, af, none⟩ :: rest) t H Q := let ⟨e, t1, H1, hq, hw⟩ := hr; ⟨e, t1, H1, hq, AOps.c hd h hw⟩
theorem AO.p {d : Nat} {op : Op} {ty : TypeId} {pos : String} {af : Array Edge} {rest : List Oper} {v : Value} (hd : Nat.blt d N = true) (h : PureOk P N ⟨some d, op, ty, pos, af, none⟩ t v)
    (hr : AO P N ops rest ((d, v) :: t) H Q) : AO P N ops (⟨some d, op, ty, pos, af, none⟩ :: rest) t H Q := let ⟨e, t1, H1, hq, hw⟩ := hr; ⟨e, t1, H1, hq, AOps.p hd h hw⟩
theorem AO.s {op : Op} {ty : TypeId} {pos : String} {af : Array Edge} {rest : List Oper} {v : Value} {H' : AHeap} (h : OpOk P N ⟨none, op, ty, pos, af, none⟩ t H v H')
    (hr : AO P N ops rest t H' Q) : AO P N ops (⟨none, op, ty, pos, af, none⟩ :: rest) t H Q := let ⟨e, t1, H1, hq, hw⟩ := hr; ⟨e, t1, H1, hq, AOps.s h hw⟩
theorem AO.gc {d j e : Nat} {want : Bool} {op : Op} {ty : TypeId} {pos : String} {af : Array Edge} {rest : List Oper} {v : Value} {H' : AHeap} (hj : (ops[j]?).bind (·.dst) = some e) (hb : eget t e = some (.bool want)) (hd : Nat.blt d N = true)
    (h : OpOk P N ⟨some d, op, ty, pos, af, some (j, want)⟩ t H v H') (hr : AO P N ops rest ((d, v) :: t) H' Q) : AO P N ops (⟨some d, op, ty, pos, af, some (j, want)⟩ :: rest) t H Q := let ⟨e, t1, H1, hq, hw⟩ := hr; ⟨e, t1, H1, hq, AOps.gc hj hb hd h hw⟩
theorem AO.gp {d j e : Nat} {want : Bool} {op : Op} {ty : TypeId} {pos : String} {af : Array Edge} {rest : List Oper} {v : Value} (hj : (ops[j]?).bind (·.dst) = some e) (hb : eget t e = some (.bool want)) (hd : Nat.blt d N = true)
    (h : PureOk P N ⟨some d, op, ty, pos, af, some (j, want)⟩ t v) (hr : AO P N ops rest ((d, v) :: t) H Q) : AO P N ops (⟨some d, op, ty, pos, af, some (j, want)⟩ :: rest) t H Q := let ⟨e, t1, H1, hq, hw⟩ := hr; ⟨e, t1, H1, hq, AOps.gp hj hb hd h hw⟩
theorem AO.gn {d j e : Nat} {want : Bool} {op : Op} {ty : TypeId} {pos : String} {af : Array Edge} {rest : List Oper} (hj : (ops[j]?).bind (·.dst) = some e) (hb : eget t e = some (.bool (!want))) (hd : Nat.blt d N = true)
    (hr : AO P N ops rest ((d, undef) :: t) H Q) : AO P N ops (⟨some d, op, ty, pos, af, some (j, want)⟩ :: rest) t H Q := let ⟨e, t1, H1, hq, hw⟩ := hr; ⟨e, t1, H1, hq, AOps.gn hj hb hd hw⟩
theorem AO.gu {d j e : Nat} {want : Bool} {op : Op} {ty : TypeId} {pos : String} {af : Array Edge} {rest : List Oper} (hj : (ops[j]?).bind (·.dst) = some e) (hb : eget t e = some undef) (hd : Nat.blt d N = true)
    (hr : AO P N ops rest ((d, undef) :: t) H Q) : AO P N ops (⟨some d, op, ty, pos, af, some (j, want)⟩ :: rest) t H Q := let ⟨e, t1, H1, hq, hw⟩ := hr; ⟨e, t1, H1, hq, AOps.gu hj hb hd hw⟩
end ax
section dx
variable {P : Program} {N : Nat} {l₀ : List Oper} {t₀ : Env} {H₀ : AHeap} {Q : Exit → Env → AHeap → Prop} {l : List Oper} {t : Env} {H : AHeap} {acc : List Ev}
variable {d : Nat} {op : Op} {ty : TypeId} {pos : String} {af : Array Edge} {v : Value}
theorem DX.start {id : Nat} (hm : P.follows .mixedOrders = true) (h : DX P N l t H Q l t H []) : AX P N (.region id l.toArray true) t H Q := let ⟨t1, H1, hq, hw⟩ := h; ⟨_, t1, H1, hq, DTr.start hm hw⟩
theorem DX.nil (st : staticOk l₀ l₀.toArray (acc.map (·.kd.isWrite)) = true) (dyn : dynOk l₀ acc) (h : Q .normal t H) : DX P N l₀ t₀ H₀ Q [] t H acc := ⟨t, H, h, DTr.nil ⟨st, dyn, ⟨rfl, rfl, rfl⟩⟩⟩
theorem DX.p (hd : Nat.blt d N = true) (hs : noSel op = true) (h : PureOk P N ⟨some d, op, ty, pos, af, none⟩ (restr (Oper.looksAt l₀.toArray ⟨some d, op, ty, pos, af, none⟩) t) v)
    (k : DX P N l₀ t₀ H₀ Q l ((d, v) :: t) H (acc ++ [⟨.pure, v, H, H⟩])) : DX P N l₀ t₀ H₀ Q (⟨some d, op, ty, pos, af, none⟩ :: l) t H acc := let ⟨t1, H1, hq, hw⟩ := k; ⟨t1, H1, hq, DTr.p hd hs h hw⟩
theorem DX.pb {b : Bool} (hd : Nat.blt d N = true) (hs : noSel op = true) (h : PureOk P N ⟨some d, op, ty, pos, af, none⟩ (restr (Oper.looksAt l₀.toArray ⟨some d, op, ty, pos, af, none⟩) t) (.bool b))
    (kT : b = true → DX P N l₀ t₀ H₀ Q l ((d, .bool true) :: t) H (acc ++ [⟨.pure, .bool true, H, H⟩])) (kF : b = false → DX P N l₀ t₀ H₀ Q l ((d, .bool false) :: t) H (acc ++ [⟨.pure, .bool false, H, H⟩])) :
    DX P N l₀ t₀ H₀ Q (⟨some d, op, ty, pos, af, none⟩ :: l) t H acc := by
  cases b with
  | true => exact DX.p hd hs h (kT rfl)
  | false => exact DX.p hd hs h (kF rfl)
theorem DX.gp {j e : Nat} {want : Bool} (hj : (l₀.toArray[j]?).bind (·.dst) = some e) (hb : eget (restr (Oper.looksAt l₀.toArray ⟨some d, op, ty, pos, af, some (j, want)⟩) t) e = some (.bool want)) (hd : Nat.blt d N = true) (hs : noSel op = true)
    (h : PureOk P N ⟨some d, op, ty, pos, af, some (j, want)⟩ (restr (Oper.looksAt l₀.toArray ⟨some d, op, ty, pos, af, some (j, want)⟩) t) v)
    (k : DX P N l₀ t₀ H₀ Q l ((d, v) :: t) H (acc ++ [⟨.pure, v, H, H⟩])) : DX P N l₀ t₀ H₀ Q (⟨some d, op, ty, pos, af, some (j, want)⟩ :: l) t H acc := let ⟨t1, H1, hq, hw⟩ := k; ⟨t1, H1, hq, DTr.gp hj hb hd hs h hw⟩
theorem DX.gpb {j e : Nat} {want b : Bool} (hj : (l₀.toArray[j]?).bind (·.dst) = some e) (hb : eget (restr (Oper.looksAt l₀.toArray ⟨some d, op, ty, pos, af, some (j, want)⟩) t) e = some (.bool want)) (hd : Nat.blt d N = true) (hs : noSel op = true)
    (h : PureOk P N ⟨some d, op, ty, pos, af, some (j, want)⟩ (restr (Oper.looksAt l₀.toArray ⟨some d, op, ty, pos, af, some (j, want)⟩) t) (.bool b))
    (kT : b = true → DX P N l₀ t₀ H₀ Q l ((d, .bool true) :: t) H (acc ++ [⟨.pure, .bool true, H, H⟩])) (kF : b = false → DX P N l₀ t₀ H₀ Q l ((d, .bool false) :: t) H (acc ++ [⟨.pure, .bool false, H, H⟩])) :
    DX P N l₀ t₀ H₀ Q (⟨some d, op, ty, pos, af, some (j, want)⟩ :: l) t H acc := by
  cases b with
  | true => exact DX.gp hj hb hd hs h (kT rfl)
  | false => exact DX.gp hj hb hd hs h (kF rfl)
theorem DX.gn {j e : Nat} {want : Bool} (hj : (l₀.toArray[j]?).bind (·.dst) = some e) (hb : eget (restr (Oper.looksAt l₀.toArray ⟨some d, op, ty, pos, af, some (j, want)⟩) t) e = some (.bool (!want))) (hd : Nat.blt d N = true) (hs : noSel op = true)
    (k : DX P N l₀ t₀ H₀ Q l ((d, undef) :: t) H (acc ++ [⟨.skip, undef, H, H⟩])) : DX P N l₀ t₀ H₀ Q (⟨some d, op, ty, pos, af, some (j, want)⟩ :: l) t H acc := let ⟨t1, H1, hq, hw⟩ := k; ⟨t1, H1, hq, DTr.gn hj hb hd hs hw⟩
theorem DX.gu {j e : Nat} {want : Bool} (hj : (l₀.toArray[j]?).bind (·.dst) = some e) (hb : eget (restr (Oper.looksAt l₀.toArray ⟨some d, op, ty, pos, af, some (j, want)⟩) t) e = some undef) (hd : Nat.blt d N = true) (hs : noSel op = true)
    (k : DX P N l₀ t₀ H₀ Q l ((d, undef) :: t) H (acc ++ [⟨.skip, undef, H, H⟩])) : DX P N l₀ t₀ H₀ Q (⟨some d, op, ty, pos, af, some (j, want)⟩ :: l) t H acc := let ⟨t1, H1, hq, hw⟩ := k; ⟨t1, H1, hq, DTr.gu hj hb hd hs hw⟩
theorem DX.r {cs : List (Nat × Nat × Value)} (hd : Nat.blt d N = true) (hs : noSel op = true) (h : ROk P N ⟨some d, op, ty, pos, af, none⟩ (restr (Oper.looksAt l₀.toArray ⟨some d, op, ty, pos, af, none⟩) t) cs v)
    (hc : ∀ c ∈ cs, hcell H c.1 c.2.1 = some c.2.2 ∧ Bel H.length c.2.2)
    (k : DX P N l₀ t₀ H₀ Q l ((d, v) :: t) H (acc ++ [⟨.read cs, v, H, H⟩])) : DX P N l₀ t₀ H₀ Q (⟨some d, op, ty, pos, af, none⟩ :: l) t H acc := let ⟨t1, H1, hq, hw⟩ := k; ⟨t1, H1, hq, DTr.r hd hs h hc hw⟩
theorem DX.gr {j e : Nat} {want : Bool} {cs : List (Nat × Nat × Value)} (hj : (l₀.toArray[j]?).bind (·.dst) = some e) (hb : eget (restr (Oper.looksAt l₀.toArray ⟨some d, op, ty, pos, af, some (j, want)⟩) t) e = some (.bool want)) (hd : Nat.blt d N = true) (hs : noSel op = true)
    (h : ROk P N ⟨some d, op, ty, pos, af, some (j, want)⟩ (restr (Oper.looksAt l₀.toArray ⟨some d, op, ty, pos, af, some (j, want)⟩) t) cs v)
    (hc : ∀ c ∈ cs, hcell H c.1 c.2.1 = some c.2.2 ∧ Bel H.length c.2.2)
    (k : DX P N l₀ t₀ H₀ Q l ((d, v) :: t) H (acc ++ [⟨.read cs, v, H, H⟩])) : DX P N l₀ t₀ H₀ Q (⟨some d, op, ty, pos, af, some (j, want)⟩ :: l) t H acc := let ⟨t1, H1, hq, hw⟩ := k; ⟨t1, H1, hq, DTr.gr hj hb hd hs h hc hw⟩
theorem DX.a {cells : List Value} {i : Nat} {H' : AHeap} (hd : Nat.blt d N = true) (hs : noSel op = true) (hi : H.length = i) (hH : H ++ [AObj.row false cells] = H') (h : AOk P N ⟨some d, op, ty, pos, af, none⟩ (restr (Oper.looksAt l₀.toArray ⟨some d, op, ty, pos, af, none⟩) t) cells i v)
    (k : DX P N l₀ t₀ H₀ Q l ((d, v) :: t) H' (acc ++ [⟨.alloc cells, v, H, H'⟩])) : DX P N l₀ t₀ H₀ Q (⟨some d, op, ty, pos, af, none⟩ :: l) t H acc := let ⟨t1, H1, hq, hw⟩ := k; ⟨t1, H1, hq, DTr.aI hd hs hi hH h hw⟩
theorem DX.w {H' : AHeap} (hd : Nat.blt d N = true) (hs : noSel op = true) (h : OpOk P N ⟨some d, op, ty, pos, af, none⟩ (restr (Oper.looksAt l₀.toArray ⟨some d, op, ty, pos, af, none⟩) t) H v H') (hl : H.length ≤ H'.length)
    (k : DX P N l₀ t₀ H₀ Q l ((d, v) :: t) H' (acc ++ [⟨.write, v, H, H'⟩])) : DX P N l₀ t₀ H₀ Q (⟨some d, op, ty, pos, af, none⟩ :: l) t H acc := let ⟨t1, H1, hq, hw⟩ := k; ⟨t1, H1, hq, DTr.w hd hs h hl hw⟩
theorem DX.gw {j e : Nat} {want : Bool} {H' : AHeap} (hj : (l₀.toArray[j]?).bind (·.dst) = some e) (hb : eget (restr (Oper.looksAt l₀.toArray ⟨some d, op, ty, pos, af, some (j, want)⟩) t) e = some (.bool want)) (hd : Nat.blt d N = true) (hs : noSel op = true)
    (h : OpOk P N ⟨some d, op, ty, pos, af, some (j, want)⟩ (restr (Oper.looksAt l₀.toArray ⟨some d, op, ty, pos, af, some (j, want)⟩) t) H v H') (hl : H.length ≤ H'.length)
    (k : DX P N l₀ t₀ H₀ Q l ((d, v) :: t) H' (acc ++ [⟨.write, v, H, H'⟩])) : DX P N l₀ t₀ H₀ Q (⟨some d, op, ty, pos, af, some (j, want)⟩ :: l) t H acc := let ⟨t1, H1, hq, hw⟩ := k; ⟨t1, H1, hq, DTr.gw hj hb hd hs h hl hw⟩
theorem DX.s {H' : AHeap} (hs : noSel op = true) (h : OpOk P N ⟨none, op, ty, pos, af, none⟩ (restr (Oper.looksAt l₀.toArray ⟨none, op, ty, pos, af, none⟩) t) H v H') (hl : H.length ≤ H'.length)
    (k : DX P N l₀ t₀ H₀ Q l t H' (acc ++ [⟨.write, v, H, H'⟩])) : DX P N l₀ t₀ H₀ Q (⟨none, op, ty, pos, af, none⟩ :: l) t H acc := let ⟨t1, H1, hq, hw⟩ := k; ⟨t1, H1, hq, DTr.s hs h hl hw⟩
end dx
theorem ACall.bodyX {P : Program} {f : FuncId} {fn : Func} {c : Code} {args : List Value} {H : AHeap} {N : Nat} (t : Env) (Post : Value → AHeap → Prop) (hf : P.funcs[f]? = some fn) (hb : fn.body = some c)
    (hN : fn.ntmps = N) (hle : Nat.ble args.length N = true) (ht : envOf args = t) (h : AX P N c t H (fun ex t' H' => (ex = .normal ∨ ex = .ret) ∧ ∃ v, ResOk P N fn t' H' v ∧ Post v H')) : ∃ v H', ACall P f args H v H' ∧ Post v H' := by
  obtain ⟨e, t1, H1, ⟨he, v, hr, hp⟩, hw⟩ := h
  exact ⟨v, H1, ACall.body t hf hb hN hle ht (hw.mono (by rintro _ _ _ ⟨rfl, rfl, rfl⟩; exact ⟨he, v, hr, Fin.refl _ _ _⟩)), hp⟩
theorem ACall.bodyP {P : Program} {f : FuncId} {fn : Func} {c : Code} {args : List Value} {H : AHeap} {v : Value} {N : Nat} (t : Env) (hf : P.funcs[f]? = some fn) (hb : fn.body = some c)
    (hN : fn.ntmps = N) (hle : Nat.ble args.length N = true) (ht : envOf args = t) (h : AX P N c t H (fun ex t' H' => (ex = .normal ∨ ex = .ret) ∧ ∃ u, ResOk P N fn t' H' u ∧ u = v ∧ Flat v ∧ ∀ i, i < H.length → hget H' i = hget H i)) : ACall P f args H v H := by
  obtain ⟨e, t1, H1, ⟨he, u, hr, rfl, hfl, hk⟩, hw⟩ := h
  exact ACall.body t hf hb hN hle ht (hw.mono (by rintro _ _ _ ⟨rfl, rfl, rfl⟩; exact ⟨he, u, hr, Fin.drop hfl hk⟩))
end Go.Proofs.YtdafmafigcljkaaGreat.Am
/-
  What a call owns: segments of memory, apart from each other; slices that are read and slices that are owned. No condition.
-/
namespace Go.Proofs.YtdafmafigcljkaaGreat.Am
open Go Go.RowKit
set_option linter.unusedVariables false
set_option linter.unusedSimpArgs false
abbrev Sg := List (Nat × AObj)
structure St (M : List Nat) (H G : AHeap) (L : List Sg) : Prop where
  len : H.length ≤ G.length
  frame : ∀ j, j < H.length → j ∉ M → hget G j = hget H j
  nodup : (L.flatten.map (·.1)).Nodup
  own : ∀ x ∈ L.flatten, (x.1 ∈ M ∨ H.length ≤ x.1) ∧ x.1 < G.length ∧ hget G x.1 = x.2
theorem flat_at {L : List Sg} {k : Nat} {s : Sg} (h : L[k]? = some s) : L.flatten = (L.take k).flatten ++ (s ++ (L.drop (k + 1)).flatten) ∧ (∀ s', (L.set k s').flatten = (L.take k).flatten ++ (s' ++ (L.drop (k + 1)).flatten)) ∧
    (L.eraseIdx k).flatten = (L.take k).flatten ++ (L.drop (k + 1)).flatten := by
  have hk : k < L.length := (List.getElem?_eq_some_iff.1 h).1
  have hs : L[k] = s := (List.getElem?_eq_some_iff.1 h).2
  have e : L = L.take k ++ s :: L.drop (k + 1) := by
    have := (List.take_append_drop k L).symm
    rwa [List.drop_eq_getElem_cons hk, hs] at this
  have hl : (L.take k).length = k := by rw [List.length_take]; omega
  refine ⟨?_, fun s' => ?_, ?_⟩
  · conv => lhs; rw [e]
    rw [List.flatten_append, List.flatten_cons]
  · rw [List.set_eq_take_append_cons_drop, if_pos hk, List.flatten_append, List.flatten_cons]
  · rw [List.eraseIdx_eq_take_drop_succ, List.flatten_append]
section st
variable {M : List Nat} {H G : AHeap} {L : List Sg}
theorem St.nil (H : AHeap) : St [] H H [] := ⟨Nat.le_refl _, fun _ _ _ => rfl, List.nodup_nil, fun x h => by cases h⟩
theorem St.init {l : Sg} (hn : (l.map (·.1)).Nodup) (h : ∀ x ∈ l, x.1 < H.length ∧ hget H x.1 = x.2) : St (l.map (·.1)) H H [l] := by
  refine ⟨Nat.le_refl _, fun _ _ _ => rfl, by simpa using hn, fun x hx => ?_⟩
  have hx' : x ∈ l := by simpa using hx
  exact ⟨.inl (List.mem_map.2 ⟨x, hx', rfl⟩), (h x hx').1, (h x hx').2⟩
theorem St.perm {L' : List Sg} (S : St M H G L) (h : L.flatten.Perm L'.flatten) : St M H G L' :=
  ⟨S.len, S.frame, (h.map _).nodup_iff.1 S.nodup, fun x hx => S.own x (h.mem_iff.2 hx)⟩
theorem St.same {L' : List Sg} (S : St M H G L) (h : L.flatten = L'.flatten) : St M H G L' := S.perm (h ▸ .refl _)
theorem St.front (S : St M H G L) (k : Nat) {s : Sg} (h : L[k]? = some s) : St M H G (s :: L.eraseIdx k) := by
  obtain ⟨h1, _, h3⟩ := flat_at h
  refine S.perm ?_
  rw [h1, List.flatten_cons, h3, ← List.append_assoc, ← List.append_assoc]
  exact List.Perm.append_right _ List.perm_append_comm
theorem St.drop (S : St M H G L) (k : Nat) {s : Sg} (h : L[k]? = some s) : St M H G (L.eraseIdx k) := by
  obtain ⟨h1, _, h3⟩ := flat_at h
  have n := S.nodup
  rw [h1] at n
  refine ⟨S.len, S.frame, ?_, fun x hx => S.own x ?_⟩
  · rw [h3, List.map_append]
    rw [List.map_append, List.map_append] at n
    obtain ⟨a, b, c⟩ := List.nodup_append.1 n
    obtain ⟨b1, b2, _⟩ := List.nodup_append.1 b
    exact List.nodup_append.2 ⟨a, b2, fun x hx y hy => c x hx y (List.mem_append_right _ hy)⟩
  · rw [h3] at hx; rw [h1]
    rcases List.mem_append.1 hx with hx | hx
    · exact List.mem_append_left _ hx
    · exact List.mem_append_right _ (List.mem_append_right _ hx)
theorem St.mem (S : St M H G L) {k : Nat} {s : Sg} (h : L[k]? = some s) {x : Nat × AObj} (hx : x ∈ s) : x ∈ L.flatten := by
  rw [(flat_at h).1]; exact List.mem_append_right _ (List.mem_append_left _ hx)
theorem St.get (S : St M H G L) {k : Nat} {i : Nat} {o : AObj} {s : Sg} (h : L[k]? = some ((i, o) :: s)) : hget G i = o := (S.own _ (S.mem h (List.mem_cons_self ..))).2.2
theorem St.lt (S : St M H G L) {k : Nat} {i : Nat} {o : AObj} {s : Sg} (h : L[k]? = some ((i, o) :: s)) : i < G.length := (S.own _ (S.mem h (List.mem_cons_self ..))).2.1
theorem St.new (S : St M H G L) (o : AObj) : ∃ G' i, G.length = i ∧ G ++ [o] = G' ∧ St M H G' ([(i, o)] :: L) := by
  refine ⟨_, _, rfl, rfl, by rw [List.length_append]; have := S.len; omega, fun j hj hm => ?_, ?_, fun x hx => ?_⟩
  · rw [hget_append_lt (by have := S.len; omega)]; exact S.frame j hj hm
  · rw [List.flatten_cons, List.singleton_append, List.map_cons, List.nodup_cons]
    refine ⟨fun hm => ?_, S.nodup⟩
    obtain ⟨x, hx, e⟩ := List.mem_map.1 hm
    have h1 := (S.own x hx).2.1
    have h2 : x.1 = G.length := e
    omega
  · rw [List.flatten_cons, List.singleton_append] at hx
    rcases List.mem_cons.1 hx with rfl | hx
    · exact ⟨.inr S.len, by rw [List.length_append]; exact Nat.lt_succ_self _, hget_len _ _⟩
    · obtain ⟨h1, h2, h3⟩ := S.own x hx
      exact ⟨h1, by rw [List.length_append]; omega, by rw [hget_append_lt h2]; exact h3⟩
theorem St.upd {L' : List Sg} {A B : Sg} {i : Nat} {o o' : AObj} (S : St M H G L) (h : L.flatten = A ++ (i, o) :: B) (h' : L'.flatten = A ++ (i, o') :: B) : St M H (G.set i o') L' := by
  have n := S.nodup
  have hi := S.own (i, o) (by rw [h]; simp)
  have hne : ∀ x ∈ A ++ B, x.1 ≠ i := by
    intro x hx e
    rw [h, List.map_append, List.map_cons] at n
    obtain ⟨_, b, c⟩ := List.nodup_append.1 n
    rcases List.mem_append.1 hx with hx | hx
    · exact c _ (List.mem_map.2 ⟨x, hx, rfl⟩) i (List.mem_cons_self ..) e
    · exact (List.nodup_cons.1 b).1 (List.mem_map.2 ⟨x, hx, e⟩)
  refine ⟨by rw [List.length_set]; exact S.len, fun j hj hm => ?_, ?_, fun x hx => ?_⟩
  · rw [hget_set_other _ (fun e => ?_)]
    · exact S.frame j hj hm
    · subst e
      rcases hi.1 with hi | hi
      · exact hm hi
      · have hi' : H.length ≤ i := hi
        omega
  · rw [h] at n; rw [h']
    simpa using n
  · rw [h'] at hx
    rcases List.mem_append.1 hx with hx | hx
    · obtain ⟨h1, h2, h3⟩ := S.own x (by rw [h]; exact List.mem_append_left _ hx)
      exact ⟨h1, by rw [List.length_set]; exact h2, by rw [hget_set_other _ (Ne.symm (hne x (List.mem_append_left _ hx)))]; exact h3⟩
    · rcases List.mem_cons.1 hx with rfl | hx
      · exact ⟨hi.1, by rw [List.length_set]; exact hi.2.1, hget_set_same _ hi.2.1⟩
      · obtain ⟨h1, h2, h3⟩ := S.own x (by rw [h]; exact List.mem_append_right _ (List.mem_cons_of_mem _ hx))
        exact ⟨h1, by rw [List.length_set]; exact h2, by rw [hget_set_other _ (Ne.symm (hne x (List.mem_append_right _ hx)))]; exact h3⟩
theorem St.set (S : St M H G L) {k i : Nat} {o : AObj} (h : L[k]? = some [(i, o)]) (o' : AObj) : ∃ G', G.set i o' = G' ∧ St M H G' (L.set k [(i, o')]) := by
  obtain ⟨h1, h2, _⟩ := flat_at h
  exact ⟨_, rfl, S.upd h1 (h2 _)⟩
theorem St.kill {A B : Sg} {L' : List Sg} {i : Nat} {o : AObj} (S : St M H G L) (h : L.flatten = A ++ (i, o) :: B) (h' : L'.flatten = A ++ B) : St M H (G.set i .dead) L' := by
  have S2 : St M H (G.set i .dead) [A ++ (i, .dead) :: B] := S.upd h (by simp)
  refine ⟨S2.len, S2.frame, ?_, fun x hx => S2.own x ?_⟩
  · have n := S2.nodup
    rw [h']
    simp only [List.flatten_cons, List.flatten_nil, List.append_nil, List.map_append, List.map_cons] at n
    rw [List.map_append]
    obtain ⟨a, b, c⟩ := List.nodup_append.1 n
    exact List.nodup_append.2 ⟨a, (List.nodup_cons.1 b).2, fun x hx y hy => c x hx y (List.mem_cons_of_mem _ hy)⟩
  · rw [h'] at hx
    simp only [List.flatten_cons, List.flatten_nil, List.append_nil]
    rcases List.mem_append.1 hx with hx | hx
    · exact List.mem_append_left _ hx
    · exact List.mem_append_right _ (List.mem_cons_of_mem _ hx)
theorem St.callM {A B : List Sg} {M' : List Nat} {G' : AHeap} (S : St M H G (A ++ L)) (S' : St M' G G' B) (hM : ∀ j ∈ M', j ∈ A.flatten.map (·.1)) : St M H G' (B ++ L) := by
  have n := S.nodup
  rw [List.flatten_append, List.map_append] at n
  obtain ⟨_, nL, nd⟩ := List.nodup_append.1 n
  have hA : ∀ j ∈ M', (j ∈ M ∨ H.length ≤ j) ∧ j < G.length := fun j hj => by
    obtain ⟨x, hx, rfl⟩ := List.mem_map.1 (hM j hj)
    have := S.own x (by rw [List.flatten_append]; exact List.mem_append_left _ hx)
    exact ⟨this.1, this.2.1⟩
  have hL : ∀ x ∈ L.flatten, x.1 ∉ M' ∧ x.1 < G.length ∧ hget G x.1 = x.2 := fun x hx => by
    have := S.own x (by rw [List.flatten_append]; exact List.mem_append_right _ hx)
    exact ⟨fun hm => nd _ (hM _ hm) _ (List.mem_map.2 ⟨x, hx, rfl⟩) rfl, this.2⟩
  refine ⟨Nat.le_trans S.len S'.len, fun j hj hm => ?_, ?_, fun x hx => ?_⟩
  · rw [S'.frame j (Nat.lt_of_lt_of_le hj S.len) (fun h => ?_)]
    · exact S.frame j hj hm
    · rcases (hA j h).1 with h | h
      · exact hm h
      · omega
  · rw [List.flatten_append, List.map_append]
    refine List.nodup_append.2 ⟨S'.nodup, nL, fun a ha b hb e => ?_⟩
    obtain ⟨x, hx, rfl⟩ := List.mem_map.1 ha
    obtain ⟨y, hy, rfl⟩ := List.mem_map.1 hb
    rcases (S'.own x hx).1 with h | h
    · exact (hL y hy).1 (e ▸ h)
    · have h2 := (hL y hy).2.1
      omega
  · rw [List.flatten_append] at hx
    rcases List.mem_append.1 hx with hx | hx
    · obtain ⟨h1, h2, h3⟩ := S'.own x hx
      refine ⟨?_, h2, h3⟩
      rcases h1 with h1 | h1
      · exact (hA _ h1).1
      · exact .inr (Nat.le_trans S.len h1)
    · obtain ⟨h1, h2, h3⟩ := hL x hx
      refine ⟨(S.own x (by rw [List.flatten_append]; exact List.mem_append_right _ hx)).1, Nat.lt_of_lt_of_le h2 S'.len, ?_⟩
      rw [S'.frame _ h2 h1]; exact h3
theorem St.call {B : List Sg} {G' : AHeap} (S : St M H G L) (S' : St [] G G' B) : St M H G' (B ++ L) := St.callM (A := []) S S' (fun j h => by cases h)
theorem St.hold (S : St [] H G L) : ∀ i, i < H.length → hget G i = hget H i := fun i hi => S.frame i hi (by simp)
theorem St.forget {L' : List Sg} {M' : List Nat} (S : St M H G L) (hM : ∀ j ∈ M, j ∈ M') (h : L'.flatten.Sublist L.flatten) : St M' H G L' :=
  ⟨S.len, fun j hj hm => S.frame j hj (fun h => hm (hM j h)), (h.map _).nodup S.nodup, fun x hx => ⟨(S.own x (h.subset hx)).1.imp (hM _) id, (S.own x (h.subset hx)).2⟩⟩
end st
def blk (p : Option Addr) : Nat := match p with
  | some a => a.block
  | none => 0
def off (p : Option Addr) : Nat := match p with
  | some a => a.off
  | none => 0
def SlIn (G : AHeap) (p : Option Addr) (n c : Nat) : Prop := (p = none ∧ n = 0 ∧ c = 0) ∨ ∃ i o, p = some ⟨i, o, none⟩ ∧ i < G.length
theorem SlIn.bel {G : AHeap} {p : Option Addr} {n c : Nat} (h : SlIn G p n c) : Bel G.length (.slice p n c) := by
  rcases h with ⟨rfl, rfl, rfl⟩ | ⟨i, o, rfl, hi⟩
  · exact .nilSlice
  · exact .slice i o n c hi
structure Vw (G : AHeap) (p : Option Addr) (n c : Nat) (vs : List Value) : Prop where
  inn : SlIn G p n c
  at_ : vs ≠ [] → p = some ⟨blk p, off p, none⟩
  get : ∀ (j : Nat) v, vs[j]? = some v → hcell G (blk p) (off p + j) = some v
theorem SlIn.more {H G : AHeap} {p : Option Addr} {n c : Nat} (h : SlIn H p n c) (hl : H.length ≤ G.length) : SlIn G p n c := by
  rcases h with h | ⟨i, o, rfl, hi⟩
  · exact .inl h
  · exact .inr ⟨i, o, rfl, Nat.lt_of_lt_of_le hi hl⟩
theorem hcell_same {H G : AHeap} {i o : Nat} (h : hget G i = hget H i) : hcell G i o = hcell H i o := by unfold hcell; rw [h]
theorem Vw.frame {M : List Nat} {H G : AHeap} {L : List Sg} {p : Option Addr} {n c : Nat} {vs : List Value} (S : St M H G L) (h : Vw H p n c vs) (hM : vs ≠ [] → blk p ∉ M) : Vw G p n c vs :=
  ⟨h.inn.more S.len, h.at_, fun j v e => by
    have h1 := h.get j v e
    rw [hcell_same (S.frame _ (hcell_lt h1) (hM (fun h => by subst h; simp at e)))]; exact h1⟩
theorem St.view {H G : AHeap} {L : List Sg} {p : Option Addr} {n c : Nat} {vs : List Value} (S : St [] H G L) (h : Vw H p n c vs) : Vw G p n c vs := h.frame S (fun _ => by simp)
theorem Vw.nil {G : AHeap} : Vw G none 0 0 [] := ⟨.inl ⟨rfl, rfl, rfl⟩, fun h => absurd rfl h, fun j v h => by simp at h⟩
theorem Vw.sliceIs {G : AHeap} {p : Option Addr} {n c m : Nat} {vs : List Value} (h : Vw G p n c vs) (hl : vs.length = n * m) (hn : 0 < n) (hm : 0 < m) : SliceIs G m (.slice p n c) vs := by
  have hne : vs ≠ [] := fun e => by subst e; have := Nat.mul_pos hn hm; simp at hl; omega
  refine .inl ⟨blk p, off p, n, c, by rw [← h.at_ hne], hl, h.get⟩
def oseg (p : Option Addr) (us : List Value) : Sg := match p with
  | none => []
  | some a => [(a.block, .row false us)]
def Sb (p : Option Addr) (n c m : Nat) : Prop := (p = none ∧ n = 0 ∧ c = 0) ∨ ∃ i, p = some ⟨i, 0, none⟩ ∧ (c = capU + m ∨ (c = n ∧ c < capU))
theorem Sb.at {p : Option Addr} {n c m : Nat} (h : Sb p n c m) (hn : 0 < n) : p = some ⟨blk p, 0, none⟩ := by
  rcases h with ⟨_, rfl, _⟩ | ⟨i, rfl, _⟩
  · omega
  · rfl
theorem Sb.nil {m : Nat} : Sb none 0 0 m := .inl ⟨rfl, rfl, rfl⟩
theorem Sb.lit {i n m : Nat} (h : n < capU) : Sb (some ⟨i, 0, none⟩) n n m := .inr ⟨i, rfl, .inr ⟨rfl, h⟩⟩
section own
variable {M : List Nat} {H G : AHeap} {L : List Sg} {p : Option Addr} {n c m k : Nat} {us : List Value}
theorem St.oat (S : St M H G L) (h : L[k]? = some (oseg p us)) (hp : p = some ⟨blk p, 0, none⟩) : hget G (blk p) = .row false us := by
  rw [hp] at h; exact S.get h
theorem St.oview (S : St M H G L) (h : L[k]? = some (oseg p us)) (hb : Sb p n c m) (hl : us.length = n * m) : Vw G p n c us := by
  rcases hb with ⟨rfl, rfl, rfl⟩ | ⟨i, rfl, hc⟩
  · obtain rfl : us = [] := List.eq_nil_of_length_eq_zero (by simpa using hl)
    exact .nil
  · exact ⟨.inr ⟨i, 0, rfl, S.lt h⟩, fun _ => rfl, fun j v e => by show hcell G i (0 + j) = _; rw [Nat.zero_add]; exact row_cell (S.get h) e⟩
theorem St.oin (S : St M H G L) (h : L[k]? = some (oseg p us)) (hb : Sb p n c m) : SlIn G p n c := by
  rcases hb with ⟨rfl, rfl, rfl⟩ | ⟨i, rfl, hc⟩
  · exact .inl ⟨rfl, rfl, rfl⟩
  · exact .inr ⟨i, 0, rfl, S.lt h⟩
theorem St.oset (S : St M H G L) (h : L[k]? = some (oseg p us)) (hp : p = some ⟨blk p, 0, none⟩) (us' : List Value) : ∃ G', G.set (blk p) (.row false us') = G' ∧ St M H G' (L.set k (oseg p us')) := by
  rw [hp] at h ⊢; exact S.set h _
theorem St.buf (S : St M H G L) (h : L[k]? = some (oseg p us)) (hb : Sb p n c m) (hl : us.length = n * m) : Buf 0 G p n c m us := by
  refine ⟨hl, ?_⟩
  rcases hb with hb | ⟨i, rfl, hc⟩
  · exact .inl hb
  · exact .inr ⟨i, rfl, Nat.zero_le _, S.get h, hc⟩
def AppR (G : AHeap) (p : Option Addr) (c m : Nat) (us vs : List Value) (k : Nat) (p' : Option Addr) (c' : Nat) (G' : AHeap) : Prop :=
  (k = 0 ∧ vs = [] ∧ p' = p ∧ c' = c ∧ G' = G) ∨ (0 < k ∧ p' = some ⟨G.length, 0, none⟩ ∧ c' = capU + m ∧ G' = kill p G ++ [.row false (us ++ vs)])
theorem St.killO (S : St M H G L) (h : L[k]? = some (oseg p us)) (hb : Sb p n c m) : St M H (Am.kill p G) (L.eraseIdx k) := by
  obtain ⟨h1, _, h3⟩ := flat_at h
  rcases hb with ⟨rfl, _, _⟩ | ⟨i, rfl, _⟩
  · exact S.same (by rw [h1, h3]; rfl)
  · exact S.kill h1 h3
theorem St.app (S : St M H G L) (h : L[k]? = some (oseg p us)) (hb : Sb p n c m) (vs : List Value) (q : Nat) (hq : vs.length = q * m) : ∃ p' c' G', AppR G p c m us vs q p' c' G' ∧ St M H G' (L.set k (oseg p' (us ++ vs))) ∧ Sb p' (n + q) c' m := by
  rcases Nat.eq_zero_or_pos q with rfl | hpos
  · obtain rfl : vs = [] := List.eq_nil_of_length_eq_zero (by simpa using hq)
    refine ⟨p, c, G, .inl ⟨rfl, rfl, rfl, rfl, rfl⟩, S.same ?_, hb⟩
    obtain ⟨h1, h2, _⟩ := flat_at h
    rw [h1, h2, List.append_nil]
  · obtain ⟨G', i, hi, hG, S'⟩ := (S.killO h hb).new (.row false (us ++ vs))
    refine ⟨some ⟨G.length, 0, none⟩, capU + m, G', .inr ⟨hpos, rfl, rfl, hG.symm⟩, S'.perm ?_, .inr ⟨_, rfl, .inl rfl⟩⟩
    rw [kill_length] at hi
    subst hi
    obtain ⟨_, h2, h3⟩ := flat_at h
    rw [List.flatten_cons, h3, h2]
    show ([(G.length, AObj.row false (us ++ vs))] ++ _).Perm (_ ++ ([(G.length, AObj.row false (us ++ vs))] ++ _))
    rw [← List.append_assoc, ← List.append_assoc]
    exact List.Perm.append_right _ List.perm_append_comm
end own
section app
variable {P : Program} {N : Nat} {t : Env} {G : AHeap} {d : Option Tmp} {ty : TypeId} {pos : String} {af : Array Edge} {g : Option (Nat × Bool)}
theorem s_app {sT xT E m by_ n c k cx c' r : Nat} {ti : TypeInfo} {s x : Operand} {p q p' : Option Addr} {us vs : List Value} {z : Value} {G' : AHeap} (hT : P.underlying sT = some (.slice E)) (hX : P.underlying xT = some (.slice E))
    (hi : ∀ w, (typeInfo E).run P w = .ok ti w) (hm : ∀ w, (sizeOf E).run P w = .ok m w) (hz : ∀ w, (zeroValue E).run P w = .ok z w) (hb : ti.bytes = by_) (hzm : z.cells.size = m) (hmU : Nat.blt m 1000000 = true) (hm0 : Nat.blt 0 m = true) (hby : Nat.ble by_ 16384 = true)
    (hs0 : aEv t s = some (.slice p n c)) (hx0 : aEv t x = some (.slice q k cx)) (hB : Buf 0 G p n c m us) (hv : Vw G q k cx vs) (hvl : vs.length = k * m) (hones : ∀ v ∈ vs, oneCell v = true) (hroom : n + k ≤ 4294967296) (ha : AppR G p c m us vs k p' c' G') (hr : n + k = r) :
    OpOk P N ⟨d, .call { callee := .builtin .append, args := #[s, x], argTypes := #[sT, xT] }, ty, pos, af, g⟩ t G (.slice p' r c') G' := by
  subst hr
  have hm0' : 0 < m := by simpa [Nat.blt_eq] using hm0
  have hroom' : roomy (n + k) by_ := ⟨hroom, Nat.le_of_ble_eq_true hby⟩
  rcases ha with ⟨rfl, rfl, rfl, rfl, rfl⟩ | ⟨hk, rfl, rfl, rfl⟩
  · exact m_append_none (us := us) hs0 hx0 hT hX hm
  have hx := hv.sliceIs hvl hk hm0'
  obtain ⟨hul, ⟨rfl, rfl, rfl⟩ | ⟨i, rfl, hbi, hgi, hc⟩⟩ := hB
  · obtain rfl : us = [] := List.eq_nil_of_length_eq_zero (by omega)
    exact m_append_new hs0 hx0 hT hX hi hb hm hz hzm (.inr ⟨rfl, rfl⟩) hx (by decide) (by omega) hroom'
  · have hu : SliceIs G m (.slice (some ⟨i, 0, none⟩) n c) us := .inl ⟨i, 0, n, c, rfl, hul, fun q u e => by rw [Nat.zero_add]; exact row_cell hgi e⟩
    rcases hc with rfl | ⟨rfl, hc⟩
    · exact m_append_u hs0 hx0 hT hX hi hb hm hz hzm hgi hu hx hones hroom' hmU
    · have := (m_append_new (N := N) (d := d) (ty := ty) (pos := pos) (af := af) (g := g) hs0 hx0 hT hX hi hb hm hz hzm hu hx hc (by omega) hroom').killed i
      have hlt := row_lt hgi
      rw [List.set_append_left _ _ hlt] at this
      exact this
end app
abbrev Tb := List (Option Addr × Nat × List Int)
def thdr (x : Option Addr × Nat × List Int) : Value := .slice x.1 x.2.2.length x.2.1
def tcells (T : Tb) : List Value := T.map thdr
def trows (T : Tb) : List (List Int) := T.map (·.2.2)
def tseg (T : Tb) : Sg := T.flatMap fun x => oseg x.1 (ints x.2.2)
def TSb (T : Tb) : Prop := ∀ x ∈ T, Sb x.1 x.2.2.length x.2.1 1
def TVw (G : AHeap) (T : Tb) : Prop := ∀ x ∈ T, Vw G x.1 x.2.2.length x.2.1 (ints x.2.2)
theorem tcells_len (T : Tb) : (tcells T).length = T.length := List.length_map _
theorem trows_len (T : Tb) : (trows T).length = T.length := List.length_map _
theorem tlen {T : Tb} {R : List (List Int)} (h : trows T = R) : T.length = R.length := by rw [← h, trows_len]
theorem tcells_app (S T : Tb) : tcells (S ++ T) = tcells S ++ tcells T := List.map_append
theorem trows_app (S T : Tb) : trows (S ++ T) = trows S ++ trows T := List.map_append
theorem tcells_one {T : Tb} : ∀ v ∈ tcells T, oneCell v = true := by
  intro v h
  obtain ⟨x, _, rfl⟩ := List.mem_map.1 h
  rfl
theorem tget {T : Tb} {R : List (List Int)} {j : Nat} (h : trows T = R) (hj : j < R.length) : ∃ p c, T[j]? = some (p, c, rw_ R j) ∧ (tcells T)[j]? = some (.slice p (rw_ R j).length c) := by
  subst h
  rw [trows_len] at hj
  have e : rw_ (trows T) j = T[j].2.2 := by
    unfold rw_ trows; rw [List.getD_eq_getElem?_getD, List.getElem?_map, List.getElem?_eq_getElem hj]; rfl
  refine ⟨T[j].1, T[j].2.1, ?_, ?_⟩
  · rw [e, List.getElem?_eq_getElem hj]
  · unfold tcells; rw [List.getElem?_map, List.getElem?_eq_getElem hj, e]; rfl
theorem TVw.at {G : AHeap} {T : Tb} {j : Nat} {p : Option Addr} {c : Nat} {xs : List Int} (h : TVw G T) (e : T[j]? = some (p, c, xs)) : Vw G p xs.length c (ints xs) := h _ (List.mem_of_getElem? e)
theorem TSb.at {T : Tb} {j : Nat} {p : Option Addr} {c : Nat} {xs : List Int} (h : TSb T) (e : T[j]? = some (p, c, xs)) : Sb p xs.length c 1 := h _ (List.mem_of_getElem? e)
theorem St.tview {H G : AHeap} {L : List Sg} {T : Tb} (S : St [] H G L) (h : TVw H T) : TVw G T := fun x hx => S.view (h x hx)
theorem tseg_at {T : Tb} {j : Nat} {x : Option Addr × Nat × List Int} (h : T[j]? = some x) : tseg T = tseg (T.take j) ++ (oseg x.1 (ints x.2.2) ++ tseg (T.drop (j + 1))) ∧ ∀ y, tseg (T.set j y) = tseg (T.take j) ++ (oseg y.1 (ints y.2.2) ++ tseg (T.drop (j + 1))) := by
  have hk : j < T.length := (List.getElem?_eq_some_iff.1 h).1
  have hs : T[j] = x := (List.getElem?_eq_some_iff.1 h).2
  have e : T = T.take j ++ x :: T.drop (j + 1) := by
    have := (List.take_append_drop j T).symm
    rwa [List.drop_eq_getElem_cons hk, hs] at this
  refine ⟨?_, fun y => ?_⟩
  · conv => lhs; rw [e]
    unfold tseg; rw [List.flatMap_append, List.flatMap_cons]
  · rw [List.set_eq_take_append_cons_drop, if_pos hk]; unfold tseg; rw [List.flatMap_append, List.flatMap_cons]
section tab
variable {M : List Nat} {H G : AHeap} {L : List Sg} {T : Tb} {k j : Nat} {q : Option Addr} {c : Nat} {xs : List Int}
theorem St.tmem (S : St M H G L) (h : L[k]? = some (tseg T)) (hj : T[j]? = some (q, c, xs)) (hq : q = some ⟨blk q, 0, none⟩) : (blk q, AObj.row false (ints xs)) ∈ L.flatten := by
  refine S.mem h ?_
  rw [(tseg_at hj).1]
  refine List.mem_append_right _ (List.mem_append_left _ ?_)
  show _ ∈ oseg q (ints xs)
  rw [hq]; exact List.mem_singleton.2 rfl
theorem St.tat (S : St M H G L) (h : L[k]? = some (tseg T)) (hj : T[j]? = some (q, c, xs)) (hq : q = some ⟨blk q, 0, none⟩) : hget G (blk q) = .row false (ints xs) := (S.own _ (S.tmem h hj hq)).2.2
theorem St.tset (S : St M H G L) (h : L[k]? = some (tseg T)) (hj : T[j]? = some (q, c, xs)) (hq : q = some ⟨blk q, 0, none⟩) (xs' : List Int) :
    ∃ G', G.set (blk q) (.row false (ints xs')) = G' ∧ St M H G' (L.set k (tseg (T.set j (q, c, xs')))) := by
  obtain ⟨h1, h2, _⟩ := flat_at h
  obtain ⟨t1, t2⟩ := tseg_at hj
  have a : ∀ us, oseg q us = [(blk q, .row false us)] := fun us => by rw [hq]; rfl
  refine ⟨_, rfl, S.upd (A := (L.take k).flatten ++ tseg (T.take j)) (B := tseg (T.drop (j + 1)) ++ (L.drop (k + 1)).flatten) (o := .row false (ints xs)) ?_ ?_⟩
  · rw [h1, t1]; show _ ++ ((_ ++ (oseg q (ints xs) ++ _)) ++ _) = _; rw [a]; simp
  · rw [h2, t2]; show _ ++ ((_ ++ (oseg q (ints xs') ++ _)) ++ _) = _; rw [a]; simp
theorem St.oviewT (S : St M H G L) (h : L[k]? = some (tseg T)) (hb : TSb T) : TVw G T := by
  intro x hx
  obtain ⟨j, hj⟩ := List.getElem?_of_mem hx
  obtain ⟨q, c, xs⟩ := x
  have hs := hb.at hj
  rcases hs with ⟨rfl, h0, rfl⟩ | ⟨i, rfl, hc⟩
  · have h0' : xs.length = 0 := h0
    obtain rfl : xs = [] := List.eq_nil_of_length_eq_zero h0'
    exact .nil
  · exact ⟨.inr ⟨i, 0, rfl, (S.own _ (S.tmem h hj rfl)).2.1⟩, fun _ => rfl, fun n v e => by show hcell G i (0 + n) = _; rw [Nat.zero_add]; exact row_cell (S.tat h hj rfl) e⟩
end tab
theorem TSb.nil : TSb [] := fun x h => by cases h
theorem TSb.set {T : Tb} {j : Nat} {q : Option Addr} {c : Nat} {xs xs' : List Int} (h : TSb T) (e : T[j]? = some (q, c, xs)) (hl : xs'.length = xs.length) : TSb (T.set j (q, c, xs')) := fun x hx => by
  rcases List.mem_or_eq_of_mem_set hx with hx | rfl
  · exact h x hx
  · show Sb q xs'.length c 1; rw [hl]; exact h.at e
theorem trows_set (T : Tb) (j : Nat) (q : Option Addr) (c : Nat) (xs : List Int) : trows (T.set j (q, c, xs)) = (trows T).set j xs := by unfold trows; rw [List.map_set]
theorem tcells_set {T : Tb} {j : Nat} {q : Option Addr} {c : Nat} {xs xs' : List Int} (e : T[j]? = some (q, c, xs)) (hl : xs'.length = xs.length) : tcells (T.set j (q, c, xs')) = tcells T := by
  unfold tcells; rw [List.map_set]
  apply List.ext_getElem?
  intro i
  rw [List.getElem?_set]
  split
  · rename_i h; subst h
    have hj := (List.getElem?_eq_some_iff.1 e).1
    rw [if_pos (by rw [List.length_map]; exact hj), List.getElem?_map, e]
    show some (Value.slice q xs'.length c) = some (.slice q xs.length c)
    rw [hl]
  · rfl
end Go.Proofs.YtdafmafigcljkaaGreat.Am
/-
  Rules in the shape in which the second program prints them. No condition.
-/
namespace Go.Proofs.YtdafmafigcljkaaGreat.Am
open Go Go.RowKit
set_option linter.unusedVariables false
set_option linter.unusedSimpArgs false
def ExtG (H G : AHeap) : Prop := H.length ≤ G.length ∧ ∀ i, i < H.length → hget G i = hget H i
theorem St.ext {H G : AHeap} {L : List Sg} (S : St [] H G L) : ExtG H G := ⟨S.len, S.hold⟩
theorem ExtG.trans {H G K : AHeap} (h : ExtG H G) (k : ExtG G K) : ExtG H K := ⟨Nat.le_trans h.1 k.1, fun i hi => (k.2 i (Nat.lt_of_lt_of_le hi h.1)).trans (h.2 i hi)⟩
theorem ExtG.view {H G : AHeap} {p : Option Addr} {n c : Nat} {vs : List Value} (h : ExtG H G) (v : Vw H p n c vs) : Vw G p n c vs :=
  ⟨v.inn.more h.1, v.at_, fun j u e => by have h1 := v.get j u e; rw [hcell_same (h.2 _ (hcell_lt h1))]; exact h1⟩
theorem ExtG.tview {H G : AHeap} {T : Tb} (h : ExtG H G) (v : TVw H T) : TVw G T := fun x hx => h.view (v x hx)
theorem ExtG.get {H G : AHeap} {i : Nat} {ro : Bool} {cs : List Value} (h : ExtG H G) (e : hget H i = .row ro cs) : hget G i = .row ro cs := (h.2 i (row_lt e)).trans e
theorem St.old {M : List Nat} {H G : AHeap} {L : List Sg} {i : Nat} {ro : Bool} {cs : List Value} (S : St M H G L) (e : hget H i = .row ro cs) (hM : i ∉ M) : hget G i = .row ro cs := (S.frame i (row_lt e) hM).trans e
theorem St.omem {M : List Nat} {H G : AHeap} {L : List Sg} {k : Nat} {s : Sg} (S : St M H G L) (h : L[k]? = some s) : ∀ x ∈ s, x.1 < G.length ∧ hget G x.1 = x.2 := fun x hx => (S.own x (S.mem h hx)).2
theorem St.onodup {M : List Nat} {H G : AHeap} {L : List Sg} {k : Nat} {s : Sg} (S : St M H G L) (h : L[k]? = some s) : (s.map (·.1)).Nodup := by
  have n := S.nodup
  rw [(flat_at h).1, List.map_append, List.map_append] at n
  exact (List.nodup_append.1 (List.nodup_append.1 n).2.1).1
theorem z1 (k : Nat) : 0 + k * 1 = k := by omega
theorem o1 (o k : Nat) : o + k * 1 = o + k := by omega
theorem lt_len {α : Type} {l : List α} {n k : Nat} (h : l.length = n) (hk : k < n) : k < l.length := h ▸ hk
theorem len_set {α : Type} {l : List α} {n i : Nat} {x : α} (h : l.length = n) : (l.set i x).length = n := by rw [List.length_set]; exact h
theorem len_rep {α : Type} {n : Nat} {x : α} : (List.replicate n x).length = n := List.length_replicate
theorem len_app {α : Type} {a b : List α} {n k : Nat} (h : a.length = n) (h' : b.length = k) : n + k = (a ++ b).length := by rw [List.length_append, h, h']
theorem sl_n {p : Option Addr} {n n' c : Nat} (h : n = n') : Value.slice p n c = Value.slice p n' c := by rw [h]
theorem ints_len {l : List Int} {n : Nat} (h : l.length = n) : (ints l).length = n := by rw [ints_length]; exact h
theorem ints_len1 {l : List Int} {n : Nat} (h : l.length = n) : (ints l).length = n * 1 := by rw [ints_length, Nat.mul_one]; exact h
theorem tc_len1 {T : Tb} {R : List (List Int)} {n : Nat} (hT : trows T = R) (h : R.length = n) : (tcells T).length = n * 1 := by rw [tcells_len, tlen hT, h, Nat.mul_one]
theorem ne_get {vs : List Value} {j : Nat} {v : Value} (h : vs[j]? = some v) : vs ≠ [] := fun e => by subst e; simp at h
theorem Vw.p {G : AHeap} {p : Option Addr} {n c j : Nat} {vs : List Value} {v : Value} (h : Vw G p n c vs) (e : vs[j]? = some v) : p = some ⟨blk p, off p, none⟩ := h.at_ (ne_get e)
theorem trows_set' {T : Tb} {R : List (List Int)} {j : Nat} {q : Option Addr} {c : Nat} {xs : List Int} (h : trows T = R) : trows (T.set j (q, c, xs)) = R.set j xs := by rw [trows_set, h]
def bls (l : List Bool) : List Value := l.map .bool
def rdb (l : List Bool) (k : Nat) : Bool := l.getD k false
theorem bls_length (l : List Bool) : (bls l).length = l.length := by simp [bls]
theorem bls_get {l : List Bool} {k : Nat} (h : k < l.length) : (bls l)[k]? = some (.bool (rdb l k)) := by simp [bls, rdb, List.getD, List.getElem?_eq_getElem h]
theorem bls_set (l : List Bool) (k : Nat) (x : Bool) : (bls l).set k (.bool x) = bls (l.set k x) := by simp [bls, List.map_set]
section rules
variable {P : Program} {N : Nat} {t : Env} {H : AHeap} {d : Option Tmp} {ty : TypeId} {pos : String} {af : Array Edge} {g : Option (Nat × Bool)}
theorem flatten_single' {α : Type} : ∀ (c : Nat) (x : α), (List.replicate c [x]).flatten = List.replicate c x
  | 0, _ => rfl
  | c + 1, x => by rw [List.replicate_succ, List.replicate_succ, List.flatten_cons, flatten_single' c x]; rfl
theorem s_make1 {T E : TypeId} {x y : Operand} {k j : IntKind} {n : Int} {by_ i : Nat} {z v : Value} {us : List Value} {ti : TypeInfo} {H' : AHeap} (hT : P.underlying T = some (.slice E)) (hi : ∀ w, (typeInfo E).run P w = .ok ti w) (hm : ∀ w, (sizeOf E).run P w = .ok 1 w)
    (hz : ∀ w, (zeroValue E).run P w = .ok z w) (hzc : z.cells.toList = [v]) (hf : flat0 v = true) (hb : ti.bytes = by_) (hby : Nat.ble by_ 65536 = true) (hx : aEv t x = some (.int k n)) (hy : aEv t y = some (.int j n)) (hn : 0 ≤ n ∧ n ≤ 4294967296) (hus : us = List.replicate n.toNat v)
    (hidx : H.length = i) (hH : H ++ [AObj.row false us] = H') : OpOk P N ⟨d, .makeSlice T x y, ty, pos, af, g⟩ t H (.slice (some ⟨i, 0, none⟩) n.toNat n.toNat) H' := by
  subst hidx hH hus
  have e : n = (n.toNat : Int) := by omega
  rw [e] at hx hy
  have hb' := Nat.le_of_ble_eq_true hby
  have := m_makeSlice (N := N) (d := d) (ty := ty) (pos := pos) (af := af) (g := g) (H := H) hx hy hT hi hm hz (by rw [hzc]; intro c hc; rw [List.mem_singleton.1 hc]; exact hf) (by rw [← Array.length_toList, hzc]; rfl) hb (Nat.le_refl _) (Nat.le_trans (Nat.mul_le_mul (show n.toNat ≤ 4294967296 by omega) hb') (by decide)) (by omega) Nat.one_pos
  rw [hzc, flatten_single'] at this
  exact this
theorem fill_congr {f g : Nat → Option (Nat × Nat)} : ∀ (ps : List (Nat × Value)) (cells : Array Value), (∀ p ∈ ps, f p.1 = g p.1) → Instr.fill f cells ps = Instr.fill g cells ps
  | [], cells, _ => rfl
  | (i, v) :: rest, cells, h => by
    have h1 := h (i, v) (List.mem_cons_self ..)
    dsimp only at h1
    unfold Instr.fill
    rw [h1]
    split
    · rfl
    · split
      · rfl
      · exact fill_congr rest _ (fun p hp => h p (List.mem_cons_of_mem _ hp))
theorem p_build2 {T : TypeId} {fs : Array Field} {f0 f1 : Field} {z0 z1 : Value} {ps : List (Nat × Operand)} {vs : List (Nat × Value)} {cs : List Value} (hT : P.underlying T = some (.struct fs)) (hfs : fs = #[f0, f1]) (ho0 : f0.offset = 0) (ho1 : f1.offset = 1)
    (hm0 : ∀ w, (sizeOf f0.type).run P w = .ok 1 w) (hm1 : ∀ w, (sizeOf f1.type).run P w = .ok 1 w) (hz : ∀ w, (zeroValue T).run P w = .ok (.agg #[z0, z1]) w) (hf0 : flat0 z0 = true) (hf1 : flat0 z1 = true)
    (hp : ps.map (fun p => (p.1, aEv t p.2)) = vs.map (fun p => (p.1, some p.2))) (hlt : (vs.all fun p => Nat.blt p.1 2) = true) (hcs : partsOf 1 vs [z0, z1] = some cs) : PureOk P N ⟨d, .build T ps.toArray, ty, pos, af, g⟩ t (.agg cs.toArray) := by
  intro φ w a he
  obtain ⟨q1, q2⟩ := parts_rel hp he
  obtain ⟨cs', k1, k2, k3⟩ := fill_ok (φ := φ) (m := 1) vs (ps.map fun p => (p.1, a.eval p.2)) [z0, z1] [z0, z1] cs q1 q2 rfl (flat_self (by intro c hc; simp at hc; rcases hc with rfl | rfl <;> assumption)) hcs
  have hpl : ((fs.mapM fun f => (do pure (f.offset, ← sizeOf f.type) : Sem (Nat × Nat))).run P w) = .ok #[(0, 1), (1, 1)] w := by
    subst hfs; simp [hm0, hm1, ho0, ho1]
  have hall : ∀ p ∈ (ps.map fun p => (p.1, a.eval p.2)), ((#[(0, 1), (1, 1)] : Array (Nat × Nat))[p.1]?) = some (p.1 * 1, 1) := by
    intro p hp'
    obtain ⟨i, hi, e⟩ := List.getElem_of_mem hp'
    have hi2 : i < vs.length := by rw [q1]; exact hi
    have h1 := q2 i vs[i] _ (List.getElem?_eq_getElem hi2) (List.getElem?_eq_getElem hi)
    rw [List.all_eq_true] at hlt
    have h2 := hlt _ (List.getElem_mem hi2)
    rw [Nat.blt_eq] at h2
    rw [e] at h1
    rw [← h1.1]
    generalize vs[i].1 = n at h2
    match n, h2 with
    | 0, _ => rfl
    | 1, _ => rfl
  refine ⟨.agg cs'.toArray, ?_, .agg _ _ (by simpa using k2) fun j c c' e e' => k3 j c c' (by simpa using e) (by simpa using e')⟩
  have e1 := (fill_congr (f := fun i => (#[(0, 1), (1, 1)] : Array (Nat × Nat))[i]?) (g := fun i => some (i * 1, 1)) _ ([z0, z1] : List Value).toArray hall).trans k1
  have step : (Instr.build T ((ps.map (fun p => (p.1, a.eval p.2))).toArray)).run P w = .ok (.agg cs'.toArray) w := by
    unfold Instr.build
    simp only [Sem.run_bind, hz, Result.andThen_ok, run_underlying hT, hpl]
    have : (Value.agg #[z0, z1]).cells = ([z0, z1] : List Value).toArray := rfl
    rw [this]
    simp only [e1]
    rfl
  simp only [execOp, Sem.run_bind]
  rw [show (Array.map (fun (x : Nat × Operand) => match x with | (i, x) => (i, a.eval x)) ps.toArray) = (ps.map (fun p => (p.1, a.eval p.2))).toArray from by simp, step]
  rfl
theorem p_nilCheck {x : Operand} {i o : Nat} (hx : aEv t x = some (.pointer (some ⟨i, o, none⟩))) : PureOk P N ⟨d, .nilCheck x, ty, pos, af, g⟩ t (.pointer (some ⟨i, o, none⟩)) := p_nilCheck_ptr hx
theorem s_indexV {T : TypeId} {x y : Operand} {E : TypeId} {m q : Nat} {k : IntKind} {n : Int} {i o len c : Nat} {p : Option Addr} (hT : P.underlying T = some (.slice E)) (hm : ∀ w, (sizeOf E).run P w = .ok m w) (hx : aEv t x = some (.slice p len c)) (hp : p = some ⟨i, o, none⟩) (hy : aEv t y = some (.int k n))
    (hn : inR n len) (hq : o + n.toNat * m = q) : PureOk P N ⟨d, .indexAddr T x y, ty, pos, af, g⟩ t (.pointer (some ⟨i, q, none⟩)) := s_indexP hT hm hx hp hy hn.1 hn.2 hq
theorem p_addE {xT yT : TypeId} {x y : Operand} {a b : Int} (hx : aEv t x = some (.int .i64 a)) (hy : aEv t y = some (.int .i64 b)) (h : in64 (a + b)) : PureOk P N ⟨d, .binOp .add xT x y yT, ty, pos, af, g⟩ t (.int .i64 (a + b)) := p_add hx hy (in64_wr h)
theorem p_subE {xT yT : TypeId} {x y : Operand} {a b : Int} (hx : aEv t x = some (.int .i64 a)) (hy : aEv t y = some (.int .i64 b)) (h : in64 (a - b)) : PureOk P N ⟨d, .binOp .sub xT x y yT, ty, pos, af, g⟩ t (.int .i64 (a - b)) := p_sub hx hy (in64_wr h)
theorem p_mulE {xT yT : TypeId} {x y : Operand} {a b : Int} (hx : aEv t x = some (.int .i64 a)) (hy : aEv t y = some (.int .i64 b)) (h : in64 (a * b)) : PureOk P N ⟨d, .binOp .mul xT x y yT, ty, pos, af, g⟩ t (.int .i64 (a * b)) := p_mul hx hy (in64_wr h)
theorem p_quoE {xT yT : TypeId} {x y : Operand} {a b : Int} (hx : aEv t x = some (.int .i64 a)) (hy : aEv t y = some (.int .i64 b)) (h : b ≠ 0 ∧ in64 (a.tdiv b)) : PureOk P N ⟨d, .binOp .quo xT x y yT, ty, pos, af, g⟩ t (.int .i64 (a.tdiv b)) := p_quo hx hy h.1 (in64_wr h.2)
theorem p_remE {xT yT : TypeId} {x y : Operand} {a b : Int} (hx : aEv t x = some (.int .i64 a)) (hy : aEv t y = some (.int .i64 b)) (h : b ≠ 0) : PureOk P N ⟨d, .binOp .rem xT x y yT, ty, pos, af, g⟩ t (.int .i64 (a.tmod b)) := p_rem hx hy h rfl
end rules
def pairOk (es : List Ev) (k u : Nat) : Prop :=
  match es[k]?, es[u]? with
  | some e, some f => (match e.kd with
    | .read cs => ∀ c ∈ cs, c.1 < f.H.length → hget f.H' c.1 = hget f.H c.1
    | .alloc _ => k < u → hget f.H' e.H.length = hget f.H e.H.length
    | _ => True)
  | _, _ => True
def pairsAll (es : List Ev) : List (Nat × Nat) → Prop
  | [] => True
  | (k, u) :: r => pairOk es k u ∧ pairsAll es r
def ordPs (ops : List Oper) (wr ra : List Bool) (ps : List (Nat × Nat)) : Bool :=
  let bef := befAll ops
  (List.range ra.length).all fun k => !(ra.getD k false) || (List.range wr.length).all fun u => !(wr.getD u false) || (bef.getD u []).contains k || (bef.getD k []).contains u || ps.any (fun p => p.1 == k && p.2 == u)
theorem dyn_pairs {ops : List Oper} {es : List Ev} (ps : List (Nat × Nat)) (h : ordPs ops (es.map fun e => e.kd.isWrite) (es.map fun e => e.kd.isRA) ps = true) (hp : pairsAll es ps) : dynOk ops es := by
  have hmem : ∀ p ∈ ps, pairOk es p.1 p.2 := by
    clear h
    induction ps with
    | nil => intro p h; cases h
    | cons q r ih =>
      obtain ⟨a, b⟩ := q
      intro p h
      rcases List.mem_cons.1 h with rfl | h
      · exact hp.1
      · exact ih hp.2 p h
  intro k e hk u f hu hf hun
  unfold ordPs at h
  rw [List.all_eq_true] at h
  have hkl : k < es.length := (List.getElem?_eq_some_iff.1 hk).1
  have hul : u < es.length := (List.getElem?_eq_some_iff.1 hu).1
  have h1 := h k (List.mem_range.2 (by rw [List.length_map]; exact hkl))
  rw [Bool.or_eq_true, List.all_eq_true] at h1
  have e1 : (es.map fun e => e.kd.isRA).getD k false = e.kd.isRA := by rw [List.getD_eq_getElem?_getD, List.getElem?_map, hk]; rfl
  have e2 : (es.map fun e => e.kd.isWrite).getD u false = true := by rw [List.getD_eq_getElem?_getD, List.getElem?_map, hu]; show f.kd.isWrite = true; rw [hf]; rfl
  rcases h1 with h1 | h1
  · rw [e1] at h1
    cases hkd : e.kd <;> dsimp only <;> (rw [hkd] at h1; cases h1)
  · have h2 := h1 u (List.mem_range.2 (by rw [List.length_map]; exact hul))
    rw [e2] at h2
    simp only [Bool.not_true, Bool.false_or, Bool.or_eq_true, List.contains_iff_mem] at h2
    rcases h2 with h2 | h2
    · exact absurd h2 (not_or.2 hun)
    · obtain ⟨p, hp1, hp2⟩ := List.any_eq_true.1 h2
      rw [Bool.and_eq_true, beq_iff_eq, beq_iff_eq] at hp2
      have := hmem p hp1
      rw [hp2.1, hp2.2] at this
      unfold pairOk at this
      rw [hk, hu] at this
      exact this
theorem rd1 {G G' : AHeap} {i o : Nat} {v : Value} (h : i < G.length → hget G' i = hget G i) : ∀ c ∈ [(i, o, v)], c.1 < G.length → hget G' c.1 = hget G c.1 := by
  intro c hc; rw [List.mem_singleton.1 hc]; exact h
end Go.Proofs.YtdafmafigcljkaaGreat.Am
/-
  More rules in the shape in which the second program prints them. No condition.
-/
namespace Go.Proofs.YtdafmafigcljkaaGreat.Am
open Go Go.RowKit
set_option linter.unusedVariables false
set_option linter.unusedSimpArgs false
section st
variable {M : List Nat} {H G : AHeap} {L : List Sg}
theorem St.keep (S : St M H G L) (n : Nat) : St M H G (L.take n) := S.forget (fun _ h => h) (by
  have : L.flatten = (L.take n).flatten ++ (L.drop n).flatten := by rw [← List.flatten_append, List.take_append_drop]
  rw [this]; exact List.sublist_append_left _ _)
theorem St.cellsEq (S : St M H G L) {k : Nat} {p : Option Addr} {us us' : List Value} (e : us = us') (h : L[k]? = some (oseg p us)) : St M H G (L.set k (oseg p us')) := by
  subst e
  obtain ⟨h1, h2, _⟩ := flat_at h
  exact S.same (by rw [h1, h2])
theorem St.hdr (S : St M H G L) {k : Nat} {p : Option Addr} {us us' : List Value} (e : us = us') (h : L[k]? = some (oseg p us)) : St M H G (L.set k (oseg p us')) := S.cellsEq e h
theorem St.nilseg (S : St M H G L) (k : Nat) : St M H G (L.insertIdx k []) := by
  refine S.same ?_
  induction L generalizing k with
  | nil => cases k <;> simp
  | cons a L ih =>
    cases k with
    | zero => simp
    | succ k =>
      rw [List.insertIdx_succ_cons, List.flatten_cons, List.flatten_cons]
      congr 1
      exact ih ((S.forget (fun _ h => h) (by rw [List.flatten_cons]; exact List.sublist_append_right _ _))) k
theorem tseg_app (S T : Tb) : tseg (S ++ T) = tseg S ++ tseg T := List.flatMap_append
theorem St.tmerge {T T' : Tb} (S : St M H G (tseg T :: tseg T' :: L)) : St M H G (tseg (T ++ T') :: L) := S.same (by simp [tseg_app])
theorem St.join2 {a b : Sg} (S : St M H G (a :: b :: L)) : St M H G ((a ++ b) :: L) := S.same (by simp)
end st
theorem TSb.one {p : Option Addr} {c : Nat} {xs : List Int} (h : Sb p xs.length c 1) : TSb [(p, c, xs)] := fun x hx => by rw [List.mem_singleton.1 hx]; exact h
theorem TSb.app {S T : Tb} (h : TSb S) (k : TSb T) : TSb (S ++ T) := fun x hx => (List.mem_append.1 hx).elim (h x) (k x)
theorem sb_len {α : Type} {xs : List α} {p : Option Addr} {n c m : Nat} (h : xs.length = n) (k : Sb p n c m) : Sb p xs.length c m := h ▸ k
theorem trows_apps {S T : Tb} {R Q : List (List Int)} (h : trows S = R) (k : trows T = Q) : trows (S ++ T) = R ++ Q := by rw [trows_app, h, k]
theorem bls_rep {n : Nat} : bls (List.replicate n false) = List.replicate n (.bool false) := by simp [bls]
theorem len_nilapp {α : Type} {b : List α} {k : Nat} (h : b.length = k) : 0 + k = b.length := by omega
theorem mkcap {n : Int} (h : 0 ≤ n ∧ n ≤ 4294967296) : n.toNat < capU := by unfold capU; omega
theorem flat_tl {l : List Value} (h : ∀ v ∈ l, Flat v) : Flat (.tuple l.toArray) := .tuple _ fun i v e => h v (by simpa using Array.mem_of_getElem? e)
theorem flat_t2 {a b : Value} (ha : Flat a) (hb : Flat b) : Flat (.tuple #[a, b]) := flat_tl (l := [a, b]) (by intro v h; simp at h; rcases h with rfl | rfl <;> assumption)
theorem flat_t4 {a b c d : Value} (ha : Flat a) (hb : Flat b) (hc : Flat c) (hd : Flat d) : Flat (.tuple #[a, b, c, d]) := flat_tl (l := [a, b, c, d]) (by intro v h; simp at h; rcases h with rfl | rfl | rfl | rfl <;> assumption)
theorem appR_len {G : AHeap} {p : Option Addr} {c m : Nat} {us vs : List Value} {k : Nat} {p' : Option Addr} {c' : Nat} {G' : AHeap} (h : AppR G p c m us vs k p' c' G') : G.length ≤ G'.length := by
  rcases h with ⟨_, _, _, _, rfl⟩ | ⟨_, _, _, rfl⟩
  · exact Nat.le_refl _
  · rw [append_len]; omega
section rules
variable {P : Program} {N : Nat} {t : Env} {H : AHeap} {d : Option Tmp} {ty : TypeId} {pos : String} {af : Array Edge} {g : Option (Nat × Bool)}
theorem build0_run {T E : TypeId} {m : Nat} {w : World} (hT : P.underlying T = some (.slice E)) (hm : ∀ w, (sizeOf E).run P w = .ok m w) : (Instr.buildSlice T 0 #[]).run P w = .ok (.slice (some ⟨w.heap.size, 0, none⟩) 0 0) (w.alloc (.cells #[] E)) := by
  have h0 : ∀ f : Nat → Value, (Array.range 0).map f = #[] := fun f => Array.eq_empty_of_size_eq_zero (by simp)
  simp [Instr.buildSlice, run_underlying hT, hm, Instr.fill, newRow, h0]
theorem s_build0 {T E : TypeId} {m i : Nat} {H' : AHeap} {us : List Value} (hT : P.underlying T = some (.slice E)) (hm : ∀ w, (sizeOf E).run P w = .ok m w) (hidx : H.length = i) (hH : H ++ [AObj.row false us] = H') (hus : us = [] := by rfl) :
    OpOk P N ⟨d, .buildSlice T 0 #[], ty, pos, af, g⟩ t H (.slice (some ⟨i, 0, none⟩) 0 0) H' := by
  subst hus hidx hH
  intro W φ w a hs he
  have hrun : (execOp a.eval (⟨d, .buildSlice T 0 #[], ty, pos, af, g⟩ : Oper)).run P w = .ok (.value (.slice (some ⟨w.heap.size, 0, none⟩) 0 0)) (w.alloc (.cells #[] E)) := by
    have e : (#[] : Array (Nat × Operand)).map (fun x => match x with | (i, x) => (i, a.eval x)) = #[] := by simp
    simp only [execOp, Sem.run_bind]
    rw [e, build0_run hT hm]
    simp
  obtain ⟨φ', k1, k2, k3, k4⟩ := alloc_ok hs [] #[] E (Nat.le_refl _) (fun j c c' e => by simp at e)
  refine Does.of_value hrun ⟨φ', k1, .slice _ _ _ _ _ _ k3 (fun _ => rfl) (fun m' h => ?_) (Nat.le_refl _), k2⟩
  unfold capU at h; omega
theorem s_buildT1 {T E : TypeId} {i n : Nat} {x : Operand} {X : Tb} {p : Option Addr} {c : Nat} {xs : List Int} {z : Value} {H' : AHeap} (hl : xs.length = n) (hT : P.underlying T = some (.slice E)) (hm : ∀ w, (sizeOf E).run P w = .ok 1 w) (hz : ∀ w, (zeroValue E).run P w = .ok z w) (hzc : z = .slice none 0 0)
    (hx : aEv t x = some (.slice p n c)) (hidx : H.length = i) (hH : H ++ [AObj.row false (tcells X)] = H') (hX : X = [(p, c, xs)] := by rfl) :
    OpOk P N ⟨d, .buildSlice T 1 [(0, x)].toArray, ty, pos, af, g⟩ t H (.slice (some ⟨i, 0, none⟩) 1 1) H' := by
  subst hidx hH hzc hX hl
  exact m_buildSlice (vs := [(0, .slice p xs.length c)]) (by simp [hx]) hT hm hz (by intro c hc; simp [Value.cells] at hc; subst hc; rfl) rfl Nat.one_pos (by omega) rfl rfl
theorem a_buildT1 {T E : TypeId} {i n : Nat} {x : Operand} {X : Tb} {p : Option Addr} {c : Nat} {xs : List Int} {z : Value} (hl : xs.length = n) (hT : P.underlying T = some (.slice E)) (hm : ∀ w, (sizeOf E).run P w = .ok 1 w) (hz : ∀ w, (zeroValue E).run P w = .ok z w) (hzc : z = .slice none 0 0)
    (hx : aEv t x = some (.slice p n c)) (hX : X = [(p, c, xs)] := by rfl) :
    AOk P N ⟨d, .buildSlice T 1 [(0, x)].toArray, ty, pos, af, g⟩ t (tcells X) i (.slice (some ⟨i, 0, none⟩) 1 1) := by
  subst hzc hX hl
  exact a_buildSlice (vs := [(0, .slice p xs.length c)]) (by simp [hx]) hT hm hz (by intro c hc; simp [Value.cells] at hc; subst hc; rfl) rfl Nat.one_pos (by omega) rfl rfl
end rules
end Go.Proofs.YtdafmafigcljkaaGreat.Am
