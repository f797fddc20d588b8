/-
  An abstract machine over this model's programs, second part: the frame, and the operations that look at no memory. No condition.
-/
import Derived.Test.YtocaepkkaihiiaaAm0
namespace Go.Proofs.Ytocaepkkaihiiaa.Am
open Go Go.RowKit
set_option linter.unusedVariables false

abbrev Env := List (Nat × Value)
def eget : Env → Nat → Option Value
  | [], _ => none
  | (k, v) :: t, n => match Nat.beq n k with
    | true => some v
    | false => eget t n
def eput (t : Env) (d : Option Tmp) (v : Value) : Env :=
  match d with
  | some d => (d, v) :: t
  | none => t

def flat0 : Value → Bool
  | .bool _ | .int _ _ | .string _ | .pointer none | .slice none 0 0 | .map none | .nilFunc | .nilIface => true
  | _ => false
def flatB : Value → Bool
  | .agg cs | .tuple cs => cs.toList.all flat0
  | v => flat0 v
theorem flat0_ok {v : Value} (h : flat0 v = true) : Flat v := by
  unfold flat0 at h
  split at h
  · exact .bool _
  · exact .int _ _
  · exact .string _
  · exact .nilPtr
  · exact .nilSlice
  · exact .nilMap
  · exact .nilFunc
  · exact .nilIface
  · cases h
theorem flat0_all {cs : Array Value} (h : cs.toList.all flat0 = true) (i : Nat) (v : Value) (hv : cs[i]? = some v) : Flat v := by
  rw [List.all_eq_true] at h
  exact flat0_ok (h v (by simpa using Array.mem_of_getElem? hv))
theorem flatB_ok {v : Value} (h : flatB v = true) : Flat v := by
  cases v with
  | agg cs => exact .agg cs (flat0_all h)
  | tuple cs => exact .tuple cs (flat0_all h)
  | _ => exact flat0_ok h

def aEv (t : Env) : Operand → Option Value
  | .tmp k => eget t k
  | .const v => match flatB v with
    | true => some v
    | false => none
  | .global _ => none
  | .func f => some (.func (.func f) #[] #[])

structure EnvR (φ : Phi) (N : Nat) (t : Env) (a : Act) : Prop where
  size : a.tmps.size = N
  get : ∀ k v, eget t k = some v → ∃ v', a.tmps[k]? = some v' ∧ V φ v v'

theorem EnvR.mono {φ φ' : Phi} {N : Nat} {t : Env} {a : Act} (h : EnvR φ N t a) (hm : ∀ i L, φ i = some L → φ' i = some L) : EnvR φ' N t a :=
  ⟨h.size, fun k v e => let ⟨v', h1, h2⟩ := h.get k v e; ⟨v', h1, h2.mono hm⟩⟩

/-- Forgetting. -/
def Sub (t' t : Env) : Prop := ∀ k v, eget t' k = some v → eget t k = some v
theorem Sub.refl (t : Env) : Sub t t := fun _ _ h => h
theorem Sub.trans {t t' t'' : Env} (h : Sub t t') (h' : Sub t' t'') : Sub t t'' := fun k v e => h' k v (h k v e)
theorem Sub.nil (t : Env) : Sub [] t := fun _ _ h => by cases h
theorem Sub.cons {t' t : Env} {k : Nat} {v : Value} (h1 : eget t k = some v) (h : Sub t' t) : Sub ((k, v) :: t') t := by
  intro n u e
  unfold eget at e
  split at e
  · rename_i hb
    obtain rfl : n = k := Nat.eq_of_beq_eq_true hb
    obtain rfl := Option.some.inj e
    exact h1
  · exact h n u e
theorem EnvR.sub {φ : Phi} {N : Nat} {t t' : Env} {a : Act} (h : EnvR φ N t a) (hs : Sub t' t) : EnvR φ N t' a :=
  ⟨h.size, fun k v e => h.get k v (hs k v e)⟩

theorem ev_ok {φ : Phi} {N : Nat} {t : Env} {a : Act} (h : EnvR φ N t a) {x : Operand} {v : Value} (e : aEv t x = some v) : V φ v (a.eval x) := by
  cases x with
  | tmp k =>
    obtain ⟨v', h1, h2⟩ := h.get k v e
    have : a.eval (.tmp k) = v' := by simp [Act.eval, h1]
    rw [this]; exact h2
  | const u =>
    simp only [aEv] at e
    split at e
    · rename_i hf
      obtain rfl := Option.some.inj e
      exact V.flat (flatB_ok hf)
    · cases e
  | global g => cases e
  | func f =>
    obtain rfl := Option.some.inj e
    exact V.flat (.fn _)

theorem EnvR.put {φ : Phi} {N : Nat} {t : Env} {a : Act} (h : EnvR φ N t a) {d : Option Tmp} {v v' : Value} (hd : ∀ k, d = some k → k < N) (hv : V φ v v') :
    EnvR φ N (eput t d v) (a.put d v') := by
  cases d with
  | none => exact h
  | some d =>
    refine ⟨by simp [Act.put, h.size], fun k u e => ?_⟩
    have hlt : d < a.tmps.size := by rw [h.size]; exact hd d rfl
    simp only [eput, eget] at e
    split at e
    · rename_i hb
      obtain rfl : k = d := Nat.eq_of_beq_eq_true hb
      obtain rfl := Option.some.inj e
      exact ⟨v', by simp [Act.put, hlt], hv⟩
    · rename_i hb
      have hne : d ≠ k := fun he => by subst he; simp at hb
      obtain ⟨u', h1, h2⟩ := h.get k u e
      exact ⟨u', by simp only [Act.put]; rw [Array.getElem?_setIfInBounds_ne hne]; exact h1, h2⟩

/-- What one operation comes to, a call with it. -/
def Does (P : Program) (o : Oper) (a : Act) (w : World) (R : Value → World → Prop) : Prop :=
  match (execOp a.eval o).run P w with
  | .ok (.value v) w' => R v w'
  | .ok .skip w' => R undef w'
  | .ok (.enter f args) w' => Calls P f args w' fun e w'' => ∃ v, e = .returned v ∧ R v w''
  | _ => False

theorem Does.wp {P : Program} {o : Oper} {a : Act} {w : World} {R : Value → World → Prop} {next : Act → World → Prop} {Q : Exit → Act → World → Prop}
    (h : Does P o a w R) (hn : ∀ v w', R v w' → next (a.put o.dst v) w') : o.wp P a w next Q := by
  unfold Does at h
  unfold Oper.wp
  generalize (execOp a.eval o).run P w = r at h
  cases r with
  | ok n w' =>
    cases n <;> simp only [Oper.upon] at h ⊢
    case value v => exact hn _ _ h
    case skip => exact hn _ _ h
    case enter f args => exact h.mono fun e w'' ⟨v, he, hr⟩ => by subst he; exact hn _ _ hr
    all_goals exact h.elim
  | halt x w' => exact h.elim

theorem Does.mono {P : Program} {o : Oper} {a : Act} {w : World} {R R' : Value → World → Prop} (h : Does P o a w R) (hr : ∀ v w', R v w' → R' v w') : Does P o a w R' := by
  unfold Does at *
  generalize (execOp a.eval o).run P w = r at h
  cases r with
  | ok n w' =>
    cases n <;> simp only at h ⊢
    case value v => exact hr _ _ h
    case skip => exact hr _ _ h
    case enter f args => exact h.mono fun e w'' ⟨v, he, hr'⟩ => ⟨v, he, hr _ _ hr'⟩
  | halt x w' => exact h.elim

theorem Does.of_value {P : Program} {o : Oper} {a : Act} {w w' : World} {R : Value → World → Prop} {v : Value}
    (h : (execOp a.eval o).run P w = .ok (.value v) w') (hr : R v w') : Does P o a w R := by unfold Does; rw [h]; exact hr
theorem Does.of_skip {P : Program} {o : Oper} {a : Act} {w w' : World} {R : Value → World → Prop}
    (h : (execOp a.eval o).run P w = .ok .skip w') (hr : R undef w') : Does P o a w R := by unfold Does; rw [h]; exact hr

/-- In abstract memory H and frame t, operation o yields v and leaves H'. -/
def OpOk (P : Program) (N : Nat) (o : Oper) (t : Env) (H : AHeap) (v : Value) (H' : AHeap) : Prop :=
  ∀ W φ w a, Sim W φ H w → EnvR φ N t a → Does P o a w fun v' w' => ∃ φ' : Phi, Sim W φ' H' w' ∧ V φ' v v' ∧ Step φ H w φ' H' w'

/-- The same for an operation that looks at no memory. -/
def PureOk (P : Program) (N : Nat) (o : Oper) (t : Env) (v : Value) : Prop :=
  ∀ φ w a, EnvR φ N t a → ∃ v', (execOp a.eval o).run P w = .ok (.value v') w ∧ V φ v v'

theorem PureOk.op {P : Program} {N : Nat} {o : Oper} {t : Env} {v : Value} (h : PureOk P N o t v) (H : AHeap) : OpOk P N o t H v H :=
  fun W φ w a hs he => let ⟨v', h1, h2⟩ := h φ w a he; Does.of_value h1 ⟨φ, hs, h2, Step.refl _ _ _⟩

section pure
variable {P : Program} {N : Nat} {t : Env} {d : Option Tmp} {ty : TypeId} {pos : String} {af : Array Edge} {g : Option (Nat × Bool)}

theorem p_move {x : Operand} {v : Value} (hx : aEv t x = some v) : PureOk P N ⟨d, .move x, ty, pos, af, g⟩ t v :=
  fun _ _ _ he => ⟨_, rfl, ev_ok he hx⟩
theorem p_assign {x : Operand} {v : Value} (hx : aEv t x = some v) : PureOk P N ⟨d, .assign x, ty, pos, af, g⟩ t v :=
  fun _ _ _ he => ⟨_, rfl, ev_ok he hx⟩

theorem ev_bool {φ : Phi} {a : Act} (h : EnvR φ N t a) {x : Operand} {b : Bool} (e : aEv t x = some (.bool b)) : a.eval x = .bool b := V.of_flat (.bool b) (ev_ok h e)
theorem ev_int {φ : Phi} {a : Act} (h : EnvR φ N t a) {x : Operand} {k : IntKind} {n : Int} (e : aEv t x = some (.int k n)) : a.eval x = .int k n := V.of_flat (.int k n) (ev_ok h e)
theorem ev_string {φ : Phi} {a : Act} (h : EnvR φ N t a) {x : Operand} {s : ByteArray} (e : aEv t x = some (.string s)) : a.eval x = .string s := V.of_flat (.string s) (ev_ok h e)

theorem p_pick {c x y : Operand} {b : Bool} {v : Value} (hc : aEv t c = some (.bool b)) (hx : b = true → aEv t x = some v) (hy : b = false → aEv t y = some v) :
    PureOk P N ⟨d, .pick c x y, ty, pos, af, g⟩ t v := by
  intro φ w a he
  cases b with
  | true => exact ⟨_, by simp [execOp, ev_bool he hc, asBool], ev_ok he (hx rfl)⟩
  | false => exact ⟨_, by simp [execOp, ev_bool he hc, asBool], ev_ok he (hy rfl)⟩

theorem flatV {φ : Phi} {v : Value} (h : flat0 v = true) : V φ v v := V.flat (flat0_ok h)

theorem p_bin {op : BinOp} {xT yT : TypeId} {x y : Operand} {u v r : Value} (hx : aEv t x = some u) (hy : aEv t y = some v)
    (hu : Flat u) (hv : Flat v) (hr : Flat r)
    (hrun : ∀ w, (do eqGuard op xT x y u v; binOp op xT u v).run P w = .ok r w) : PureOk P N ⟨d, .binOp op xT x y yT, ty, pos, af, g⟩ t r := by
  intro φ w a he
  have h1 := V.of_flat hu (ev_ok he hx)
  have h2 := V.of_flat hv (ev_ok he hy)
  refine ⟨r, ?_, V.flat hr⟩
  have h3 := hrun w
  simp only [execOp]
  rw [h1, h2]
  simp only [Sem.run_bind] at h3 ⊢
  rw [h3]
  rfl

theorem guard_int (op : BinOp) (xT : TypeId) (x y : Operand) (k j : IntKind) (a b : Int) (w : World) : (eqGuard op xT x y (.int k a) (.int j b)).run P w = .ok () w := by
  unfold eqGuard; cases op <;> rfl
theorem guard_bool (op : BinOp) (xT : TypeId) (x y : Operand) (a b : Bool) (w : World) : (eqGuard op xT x y (.bool a) (.bool b)).run P w = .ok () w := by
  unfold eqGuard; cases op <;> rfl
theorem guard_string (op : BinOp) (xT : TypeId) (x y : Operand) (a b : ByteArray) (w : World) : (eqGuard op xT x y (.string a) (.string b)).run P w = .ok () w := by
  unfold eqGuard; cases op <;> rfl

theorem p_int {op : BinOp} {xT yT : TypeId} {x y : Operand} {k : IntKind} {a b : Int} {r : Value} (hx : aEv t x = some (.int k a)) (hy : aEv t y = some (.int k b)) (hr : flat0 r = true)
    (hrun : ∀ w, (binOp op xT (.int k a) (.int k b)).run P w = .ok r w) : PureOk P N ⟨d, .binOp op xT x y yT, ty, pos, af, g⟩ t r :=
  p_bin hx hy (.int _ _) (.int _ _) (flat0_ok hr) fun w => by rw [Sem.run_bind, guard_int]; exact hrun w

variable {xT yT : TypeId} {x y : Operand} {k : IntKind} {a b r : Int}
theorem p_add (hx : aEv t x = some (.int k a)) (hy : aEv t y = some (.int k b)) (hr : k.wrap (a + b) = r) : PureOk P N ⟨d, .binOp .add xT x y yT, ty, pos, af, g⟩ t (.int k r) :=
  p_int hx hy rfl fun w => by simp [binOp, Op.intArith, hr]
theorem p_sub (hx : aEv t x = some (.int k a)) (hy : aEv t y = some (.int k b)) (hr : k.wrap (a - b) = r) : PureOk P N ⟨d, .binOp .sub xT x y yT, ty, pos, af, g⟩ t (.int k r) :=
  p_int hx hy rfl fun w => by simp [binOp, Op.intArith, hr]
theorem p_mul (hx : aEv t x = some (.int k a)) (hy : aEv t y = some (.int k b)) (hr : k.wrap (a * b) = r) : PureOk P N ⟨d, .binOp .mul xT x y yT, ty, pos, af, g⟩ t (.int k r) :=
  p_int hx hy rfl fun w => by simp [binOp, Op.intArith, hr]
theorem p_quo (hx : aEv t x = some (.int k a)) (hy : aEv t y = some (.int k b)) (hb : b ≠ 0) (hr : k.wrap (a.tdiv b) = r) : PureOk P N ⟨d, .binOp .quo xT x y yT, ty, pos, af, g⟩ t (.int k r) :=
  p_int hx hy rfl fun w => by simp [binOp, Op.intDiv, hr, hb]
theorem p_rem (hx : aEv t x = some (.int k a)) (hy : aEv t y = some (.int k b)) (hb : b ≠ 0) (hr : a.tmod b = r) : PureOk P N ⟨d, .binOp .rem xT x y yT, ty, pos, af, g⟩ t (.int k r) :=
  p_int hx hy rfl fun w => by simp [binOp, Op.intDiv, hr, hb]
theorem p_lss (hx : aEv t x = some (.int k a)) (hy : aEv t y = some (.int k b)) : PureOk P N ⟨d, .binOp .lss xT x y yT, ty, pos, af, g⟩ t (.bool (decide (a < b))) :=
  p_int hx hy rfl fun w => by simp [binOp, Op.intCmp]
theorem p_leq (hx : aEv t x = some (.int k a)) (hy : aEv t y = some (.int k b)) : PureOk P N ⟨d, .binOp .leq xT x y yT, ty, pos, af, g⟩ t (.bool (decide (a ≤ b))) :=
  p_int hx hy rfl fun w => by simp [binOp, Op.intCmp]
theorem p_gtr (hx : aEv t x = some (.int k a)) (hy : aEv t y = some (.int k b)) : PureOk P N ⟨d, .binOp .gtr xT x y yT, ty, pos, af, g⟩ t (.bool (decide (b < a))) :=
  p_int hx hy rfl fun w => by simp [binOp, Op.intCmp]
theorem p_geq (hx : aEv t x = some (.int k a)) (hy : aEv t y = some (.int k b)) : PureOk P N ⟨d, .binOp .geq xT x y yT, ty, pos, af, g⟩ t (.bool (decide (b ≤ a))) :=
  p_int hx hy rfl fun w => by simp [binOp, Op.intCmp]
theorem p_eql (hx : aEv t x = some (.int k a)) (hy : aEv t y = some (.int k b)) : PureOk P N ⟨d, .binOp .eql xT x y yT, ty, pos, af, g⟩ t (.bool (decide (a = b))) :=
  p_int hx hy rfl fun w => by simp [binOp, Op.intCmp]; rfl
theorem p_neq (hx : aEv t x = some (.int k a)) (hy : aEv t y = some (.int k b)) : PureOk P N ⟨d, .binOp .neq xT x y yT, ty, pos, af, g⟩ t (.bool (!decide (a = b))) :=
  p_int hx hy rfl fun w => by simp [binOp, Op.intCmp]; rfl
theorem p_bits {op : BinOp} {v : Value} (hx : aEv t x = some (.int k a)) (hy : aEv t y = some (.int k b)) (hf : flat0 v = true) (hr : ∀ w, (Op.intBits op k a b).run P w = .ok v w) (ho : op = .and ∨ op = .or ∨ op = .xor ∨ op = .andNot) :
    PureOk P N ⟨d, .binOp op xT x y yT, ty, pos, af, g⟩ t v :=
  p_int hx hy hf fun w => by rcases ho with rfl | rfl | rfl | rfl <;> simpa [binOp] using hr w
theorem p_shl {j : IntKind} (hx : aEv t x = some (.int k a)) (hy : aEv t y = some (.int j b)) (hb : 0 ≤ b) (hr : k.wrap (a * 2 ^ (min b.toNat k.bits)) = r) : PureOk P N ⟨d, .binOp .shl xT x y yT, ty, pos, af, g⟩ t (.int k r) :=
  p_bin hx hy (.int _ _) (.int _ _) (.int _ _) fun w => by rw [Sem.run_bind, guard_int]; simp [binOp, Op.shift, hr, Int.not_lt.2 hb]
theorem p_shr {j : IntKind} (hx : aEv t x = some (.int k a)) (hy : aEv t y = some (.int j b)) (hb : 0 ≤ b) (hr : a.fdiv (2 ^ (min b.toNat k.bits)) = r) : PureOk P N ⟨d, .binOp .shr xT x y yT, ty, pos, af, g⟩ t (.int k r) :=
  p_bin hx hy (.int _ _) (.int _ _) (.int _ _) fun w => by rw [Sem.run_bind, guard_int]; simp [binOp, Op.shift, hr, Int.not_lt.2 hb]

theorem equalIn_bool {xT : TypeId} (hT : P.underlying xT = some .bool) (e : Nat) (p q : Bool) (w : World) : (Op.equalIn (e + 1) xT (.bool p) (.bool q)).run P w = .ok (p == q) w := by
  simp [Op.equalIn, run_underlying hT]
theorem equal_bool {xT : TypeId} (hT : P.underlying xT = some .bool) (p q : Bool) (w : World) : (Op.equal xT (.bool p) (.bool q)).run P w = .ok (p == q) w :=
  equalIn_bool hT 9999 p q w
theorem p_beql {p q : Bool} (hT : P.underlying xT = some .bool) (hx : aEv t x = some (.bool p)) (hy : aEv t y = some (.bool q)) : PureOk P N ⟨d, .binOp .eql xT x y yT, ty, pos, af, g⟩ t (.bool (p == q)) :=
  p_bin hx hy (.bool _) (.bool _) (.bool _) fun w => by
    rw [Sem.run_bind, guard_bool]
    show (do pure (Value.bool (← Op.equal xT (.bool p) (.bool q))) : Sem Value).run P w = _
    rw [Sem.run_bind, equal_bool hT]; rfl
theorem p_bneq {p q : Bool} (hT : P.underlying xT = some .bool) (hx : aEv t x = some (.bool p)) (hy : aEv t y = some (.bool q)) : PureOk P N ⟨d, .binOp .neq xT x y yT, ty, pos, af, g⟩ t (.bool (!(p == q))) :=
  p_bin hx hy (.bool _) (.bool _) (.bool _) fun w => by
    rw [Sem.run_bind, guard_bool]
    show (do pure (Value.bool (!(← Op.equal xT (.bool p) (.bool q)))) : Sem Value).run P w = _
    rw [Sem.run_bind, equal_bool hT]; rfl

theorem p_not {xT : TypeId} {p : Bool} (hx : aEv t x = some (.bool p)) : PureOk P N ⟨d, .unOp .not xT x, ty, pos, af, g⟩ t (.bool (!p)) :=
  fun _ _ _ he => ⟨.bool (!p), by simp [execOp, ev_bool he hx, Op.unary], .bool _⟩
theorem p_neg {xT : TypeId} (hx : aEv t x = some (.int k a)) (hr : k.wrap (0 - a) = r) : PureOk P N ⟨d, .unOp .neg xT x, ty, pos, af, g⟩ t (.int k r) :=
  fun _ _ _ he => ⟨.int k r, by rw [← hr]; simp [execOp, ev_int he hx, Op.unary, Op.intArith], .int _ _⟩

theorem p_conv {src dst : TypeId} {dS : TypeDesc} {j : IntKind} (hS : P.underlying src = some dS) (hD : P.underlying dst = some (.int j)) (hx : aEv t x = some (.int k a)) (hr : j.wrap a = r) :
    PureOk P N ⟨d, .convert src dst x, ty, pos, af, g⟩ t (.int j r) :=
  fun _ _ _ he => ⟨.int j r, by rw [← hr]; simp [execOp, ev_int he hx, convert, run_underlying hS, run_underlying hD, Conv.intToInt], .int _ _⟩

end pure

end Go.Proofs.Ytocaepkkaihiiaa.Am
