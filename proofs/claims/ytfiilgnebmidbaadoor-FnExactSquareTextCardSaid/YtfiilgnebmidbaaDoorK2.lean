/-
  The abstract machine, texts joined: Am8, Am8b, Am8c, Am8d. No condition.
-/
import Derived.Test.YtfiilgnebmidbaaDoorK1
/-
  An abstract machine over this model's programs, ninth part: a statement whose order of operations is open: one walk of the written order serves every order. No condition.
-/
namespace Go.Proofs.YtfiilgnebmidbaaDoor.Am
open Go Go.RowKit
set_option linter.unusedVariables false
set_option linter.unusedSimpArgs false

/-- The slots that are asked for, alone. -/
def restr (ks : List Nat) (t : Env) : Env :=
  match ks with
  | [] => []
  | k :: ks => match eget t k with
    | some v => (k, v) :: restr ks t
    | none => restr ks t
theorem eget_restr {ks : List Nat} {t : Env} {k : Nat} {v : Value} (h : eget (restr ks t) k = some v) : k ∈ ks ∧ eget t k = some v := by
  induction ks with
  | nil => cases h
  | cons j ks ih =>
    simp only [restr] at h
    split at h
    · rename_i u e
      simp only [eget] at h
      split at h
      · rename_i hb
        rw [Nat.eq_of_beq_eq_true hb]
        obtain rfl := Option.some.inj h
        exact ⟨by simp, e⟩
      · have := ih h; exact ⟨by simp [this.1], this.2⟩
    · have := ih h; exact ⟨by simp [this.1], this.2⟩

/-- A value that speaks of blocks below n alone. -/
inductive Bel (n : Nat) : Value → Prop where
  | bool (b : Bool) : Bel n (.bool b)
  | int (k : IntKind) (x : Int) : Bel n (.int k x)
  | string (s : ByteArray) : Bel n (.string s)
  | nilPtr : Bel n (.pointer none)
  | ptr (i o : Nat) (h : i < n) : Bel n (.pointer (some ⟨i, o, none⟩))
  | nilSlice : Bel n (.slice none 0 0)
  | slice (i o k c : Nat) (h : i < n) : Bel n (.slice (some ⟨i, o, none⟩) k c)
  | nilMap : Bel n (.map none)
  | map (r : Nat) (h : r < n) : Bel n (.map (some r))
  | nilFunc : Bel n .nilFunc
  | nilIface : Bel n .nilIface
  | func (fn : Fn) (fs cs : Array Value) (hf : ∀ (i : Nat) v, fs[i]? = some v → Bel n v) (hc : ∀ (i : Nat) v, cs[i]? = some v → Bel n v) : Bel n (.func fn fs cs)
theorem V.beneath {φ : Phi} {n : Nat} {v : Value} (hb : Bel n v) : ∀ {u : Value}, V φ v u → V (fun i => if i < n then φ i else none) v u := by
  induction hb with
  | bool b => intro u h; cases h; exact .bool b
  | int k x => intro u h; cases h; exact .int k x
  | string s => intro u h; cases h; exact .string s
  | nilPtr => intro u h; cases h; exact .nilPtr
  | ptr i o hi => intro u h; cases h with | ptr _ _ L h => exact .ptr i o L (by rw [if_pos hi]; exact h)
  | nilSlice => intro u h; cases h; exact .nilSlice
  | slice i o k c hi => intro u h; cases h with | slice _ _ _ _ L c' h h1 h2 h3 => exact .slice i o k c L c' (by rw [if_pos hi]; exact h) h1 h2 h3 | empty _ _ a c' => exact .empty _ _ a c'
  | nilMap => intro u h; cases h; exact .nilMap
  | map r hi => intro u h; cases h with | map _ L h => exact .map r L (by rw [if_pos hi]; exact h)
  | nilFunc => intro u h; cases h; exact .nilFunc
  | nilIface => intro u h; cases h; exact .nilIface
  | func fn fs cs hf hc ihf ihc =>
    intro u h
    cases h with
    | func _ _ fs' _ cs' h1 h2 k1 k2 => exact .func fn fs fs' cs cs' h1 h2 (fun i v v' e e' => ihf i v e (k1 i v v' e e')) (fun i v v' e e' => ihc i v e (k2 i v v' e e'))
theorem Bel.of_flat0 {n : Nat} {v : Value} (h : flat0 v = true) : Bel n v := by
  unfold flat0 at h
  split at h
  · exact .bool _
  · exact .int _ _
  · exact .string _
  · exact .nilPtr
  · exact .nilSlice
  · exact .nilMap
  · exact .nilFunc
  · exact .nilIface
  · cases h

inductive Kd where
  | pure
  | skip
  | read (cs : List (Nat × Nat × Value))
  | alloc (cells : List Value)
  | write

/-- One operation of the written order: what it is, what it yields, memory before and behind it. -/
structure Ev where
  kd : Kd
  v : Value
  H : AHeap
  H' : AHeap

/-- A read: the same in every memory that has these cells. -/
def ROk (P : Program) (N : Nat) (o : Oper) (t : Env) (cs : List (Nat × Nat × Value)) (v : Value) : Prop :=
  ∀ (h : Nat → Nat → Option Value) (φ : Phi) (w : World) (a : Act), (∀ c ∈ cs, h c.1 c.2.1 = some c.2.2) →
    (∀ i o c L, φ i = some L → h i o = some c → ∃ c', w.cell? ⟨L.block, L.off + o, none⟩ = some c' ∧ V φ c c') → EnvR' φ t a → ∃ v', (execOp a.eval o).run P w = .ok (.value v') w ∧ V φ v v'
 where
  EnvR' (φ : Phi) (t : Env) (a : Act) : Prop := ∀ k v, eget t k = some v → ∃ v', a.tmps[k]? = some v' ∧ V φ v v'

/-- What is made: one block, of the operands alone. -/
def AOk (P : Program) (N : Nat) (o : Oper) (t : Env) (cells : List Value) (i : Nat) (v : Value) : Prop :=
  ∀ (φ : Phi) (w : World) (a : Act), EnvR φ N t a → ∃ v' cs T, (execOp a.eval o).run P w = .ok (.value v') (w.alloc (.cells cs T)) ∧ cells.length ≤ cs.size ∧
    (∀ (j : Nat) c c', cells[j]? = some c → cs[j]? = some c' → V φ c c') ∧ ∀ φ' : Phi, φ' i = some ⟨w.heap.size, 0, cs.size⟩ → (∀ i L, φ i = some L → φ' i = some L) → V φ' v v'

def Wants (ops : Array Oper) (o : Oper) (t : Env) : Prop :=
  match o.guard with
  | none => True
  | some (j, want) => ∃ d, (ops[j]?).bind (·.dst) = some d ∧ eget t d = some (.bool want)
def WantsNot (ops : Array Oper) (o : Oper) (t : Env) : Prop :=
  match o.guard with
  | none => False
  | some (j, want) => ∃ d, (ops[j]?).bind (·.dst) = some d ∧ (eget t d = some (.bool (!want)) ∨ eget t d = some undef)

def OpEv (P : Program) (N : Nat) (ops : Array Oper) (o : Oper) (t : Env) (e : Ev) : Prop :=
  match e.kd with
  | .pure => Wants ops o t ∧ PureOk P N o t e.v ∧ e.H' = e.H
  | .skip => WantsNot ops o t ∧ e.v = undef ∧ e.H' = e.H
  | .read cs => Wants ops o t ∧ ROk P N o t cs e.v ∧ (∀ c ∈ cs, hcell e.H c.1 c.2.1 = some c.2.2 ∧ Bel e.H.length c.2.2) ∧ e.H' = e.H
  | .alloc cells => Wants ops o t ∧ AOk P N o t cells e.H.length e.v ∧ e.H' = e.H ++ [.row false cells]
  | .write => Wants ops o t ∧ OpOk P N o t e.H e.v e.H' ∧ e.H.length ≤ e.H'.length

/-- The written order from operation k on, frame t, memory H. -/
def Trace (P : Program) (N : Nat) (ops : Array Oper) : List Oper → Env → AHeap → List Ev → Prop
  | [], _, _, es => es = []
  | o :: l, t, H, es => ∃ e es', es = e :: es' ∧ e.H = H ∧ (∀ k, o.dst = some k → k < N) ∧ (∀ cs b, o.op ≠ .select cs b) ∧ OpEv P N ops o (restr (o.looksAt ops) t) e ∧ Trace P N ops l (eput t o.dst e.v) e.H' es'

/-- Which operations stand before operation i, by its edges and theirs. -/
def befAll (ops : List Oper) : List (List Nat) :=
  ops.foldl (fun acc o => acc ++ [o.after.toList.foldl (fun s e => if Region.binds .any e then (e.on :: acc.getD e.on []) ++ s else s) []]) []

def Kd.isWrite : Kd → Bool
  | .write => true
  | _ => false

/-- What is asked of the edges: they point back; what writes is in order; an operation and one that writes a slot that it names are in order. -/
def staticOk (ops : List Oper) (opsA : Array Oper) (wr : List Bool) : Bool :=
  let bef := befAll ops
  (List.range ops.length).all fun k =>
    let ok := ops.getD k default
    let bk := bef.getD k []
    (ok.after.toList.all fun e => !Region.binds .any e || Nat.blt e.on k) &&
    (List.range k).all fun j =>
      bk.contains j ||
        ((ops.getD j default).apart opsA ok && !(wr.getD j false && wr.getD k false))

def unord (bef : List (List Nat)) (j k : Nat) : Prop := j ∉ bef.getD k [] ∧ k ∉ bef.getD j []

/-- What is asked of memory: a cell that is read, or a block that is made, is not touched by a writer that may come at another time. -/
def dynOk (ops : List Oper) (es : List Ev) : Prop :=
  ∀ (k : Nat) (e : Ev), es[k]? = some e → ∀ (u : Nat) (f : Ev), es[u]? = some f → f.kd = .write → unord (befAll ops) k u →
    match e.kd with
    | .read cs => ∀ c ∈ cs, c.1 < f.H.length → hget f.H' c.1 = hget f.H c.1
    | .alloc cells => k < u → hget f.H' e.H.length = hget f.H e.H.length
    | _ => True

def hAt (H : AHeap) (es : List Ev) : Nat → AHeap
  | 0 => H
  | k + 1 => match es[k]? with
    | some e => e.H'
    | none => H
def vAt (es : List Ev) (k : Nat) : Value := match es[k]? with
  | some e => e.v
  | none => undef
def dAt (l : List Oper) (k : Nat) : Option Tmp := (l[k]?).bind (·.dst)
def eAt (l : List Oper) (es : List Ev) (t : Env) : Nat → Env
  | 0 => t
  | k + 1 => eput (eAt l es t k) (dAt l k) (vAt es k)

theorem eAt_cons (o : Oper) (l : List Oper) (e : Ev) (es : List Ev) (t : Env) : ∀ k, eAt (o :: l) (e :: es) t (k + 1) = eAt l es (eput t o.dst e.v) k
  | 0 => rfl
  | k + 1 => by
    have := eAt_cons o l e es t k
    show eput (eAt (o :: l) (e :: es) t (k + 1)) (dAt (o :: l) (k + 1)) (vAt (e :: es) (k + 1)) = _
    rw [this]; rfl
theorem hAt_cons (H : AHeap) (e : Ev) (es : List Ev) : ∀ k, k ≤ es.length → hAt H (e :: es) (k + 1) = hAt e.H' es k
  | 0, _ => rfl
  | k + 1, h => by
    have : es[k]? = some es[k] := List.getElem?_eq_getElem (by omega)
    simp [hAt, this]

theorem trace_at {P : Program} {N : Nat} {ops : Array Oper} : ∀ (l : List Oper) (t : Env) (H : AHeap) (es : List Ev), Trace P N ops l t H es →
    es.length = l.length ∧ ∀ (k : Nat) o, l[k]? = some o → ∃ e, es[k]? = some e ∧ e.H = hAt H es k ∧ (∀ d, o.dst = some d → d < N) ∧ (∀ cs b, o.op ≠ .select cs b) ∧ OpEv P N ops o (restr (o.looksAt ops) (eAt l es t k)) e
  | [], t, H, es, h => by
    obtain rfl : es = [] := h
    exact ⟨rfl, fun k o e => by simp at e⟩
  | o :: l, t, H, es, h => by
    obtain ⟨e, es', rfl, hH, hd, hsel, hop, hr⟩ := h
    obtain ⟨h1, h2⟩ := trace_at l _ _ es' hr
    refine ⟨by simp [h1], fun k o' hk => ?_⟩
    cases k with
    | zero =>
      simp at hk
      subst hk
      exact ⟨e, rfl, hH, hd, hsel, hop⟩
    | succ k =>
      simp at hk
      obtain ⟨e', k1, k2, k3, k4, k5⟩ := h2 k o' hk
      have hlt : k < l.length := (List.getElem?_eq_some_iff.1 hk).1
      refine ⟨e', by simpa using k1, ?_, k3, k4, ?_⟩
      · rw [hAt_cons H e es' k (by omega)]; exact k2
      · rw [eAt_cons]; exact k5

theorem eAt_get {l : List Oper} {es : List Ev} {t : Env} {x : Nat} {v : Value} : ∀ k, eget (eAt l es t k) x = some v →
    (∃ j, j < k ∧ dAt l j = some x ∧ v = vAt es j ∧ ∀ j', j < j' → j' < k → dAt l j' ≠ some x) ∨ (eget t x = some v ∧ ∀ j', j' < k → dAt l j' ≠ some x)
  | 0, h => .inr ⟨h, fun j' hj => by omega⟩
  | k + 1, h => by
    simp only [eAt, eput] at h
    cases hd : dAt l k with
    | none =>
      rw [hd] at h
      rcases eAt_get k h with ⟨j, h1, h2, h3, h4⟩ | ⟨h1, h2⟩
      · refine .inl ⟨j, by omega, h2, h3, fun j' a b => ?_⟩
        by_cases he : j' = k
        · subst he; rw [hd]; simp
        · exact h4 j' a (by omega)
      · refine .inr ⟨h1, fun j' b => ?_⟩
        by_cases he : j' = k
        · subst he; rw [hd]; simp
        · exact h2 j' (by omega)
    | some d =>
      rw [hd] at h
      simp only [eget] at h
      cases hb : Nat.beq x d with
      | true =>
        rw [hb] at h
        obtain rfl := Nat.eq_of_beq_eq_true hb
        exact .inl ⟨k, by omega, hd, (Option.some.inj h).symm, fun j' a b => by omega⟩
      | false =>
        rw [hb] at h
        have hne : d ≠ x := fun he => by subst he; simp at hb
        rcases eAt_get k h with ⟨j, h1, h2, h3, h4⟩ | ⟨h1, h2⟩
        · refine .inl ⟨j, by omega, h2, h3, fun j' a b => ?_⟩
          by_cases he : j' = k
          · subst he; rw [hd]; simpa using hne
          · exact h4 j' a (by omega)
        · refine .inr ⟨h1, fun j' b => ?_⟩
          by_cases he : j' = k
          · subst he; rw [hd]; simpa using hne
          · exact h2 j' (by omega)

/-! edges -/
theorem befAll_len (ops : List Oper) : (befAll ops).length = ops.length ∧ ∀ (k : Nat) o, ops[k]? = some o → (befAll ops).getD k [] = o.after.toList.foldl (fun s e => if Region.binds .any e then (e.on :: ((befAll ops).take k).getD e.on []) ++ s else s) [] := by
  have key : ∀ (l : List Oper) (acc : List (List Nat)),
      let r := l.foldl (fun acc o => acc ++ [o.after.toList.foldl (fun s e => if Region.binds .any e then (e.on :: acc.getD e.on []) ++ s else s) []]) acc
      r.length = acc.length + l.length ∧ r.take acc.length = acc ∧ ∀ (k : Nat) o, l[k]? = some o → r.getD (acc.length + k) [] = o.after.toList.foldl (fun s e => if Region.binds .any e then (e.on :: (r.take (acc.length + k)).getD e.on []) ++ s else s) [] := by
    intro l
    induction l with
    | nil => intro acc; simp
    | cons o l ih =>
      intro acc
      simp only [List.foldl_cons]
      obtain ⟨h1, h2, h3⟩ := ih (acc ++ [o.after.toList.foldl (fun s e => if Region.binds .any e then (e.on :: acc.getD e.on []) ++ s else s) []])
      simp only [List.length_append, List.length_cons, List.length_nil] at h1 h2 h3
      refine ⟨by rw [h1]; simp; omega, ?_, fun k o' hk => ?_⟩
      · have := congrArg (List.take acc.length) h2
        rw [List.take_take, Nat.min_eq_left (by omega)] at this
        rw [this]; simp
      · cases k with
        | zero =>
          simp at hk
          subst hk
          have h4 := congrArg (List.take acc.length) h2
          rw [List.take_take, Nat.min_eq_left (by omega)] at h4
          have h5 : (List.take acc.length (acc ++ [o.after.toList.foldl (fun s e => if Region.binds .any e then (e.on :: acc.getD e.on []) ++ s else s) []])) = acc := by simp
          rw [h5] at h4
          rw [Nat.add_zero, h4]
          generalize List.foldl _ _ l = r at h2 ⊢
          have h6 : r[acc.length]? = (r.take (acc.length + 1))[acc.length]? := by rw [List.getElem?_take_of_lt (by omega)]
          simp only [List.getD]
          rw [h6, h2]
          simp
        | succ k =>
          simp at hk
          have := h3 k o' hk
          rw [show acc.length + (k + 1) = acc.length + (0 + 1) + k by omega]
          simpa using this
  have := key ops []
  simp only [List.length_nil, Nat.zero_add] at this
  exact ⟨this.1, this.2.2⟩

theorem fold_mem {m : Nat} (es : List Edge) (f : Nat → List Nat) : ∀ s, m ∈ es.foldl (fun s e => if Region.binds .any e then (e.on :: f e.on) ++ s else s) s → m ∈ s ∨ ∃ e ∈ es, Region.binds .any e = true ∧ (m = e.on ∨ m ∈ f e.on) := by
  induction es with
  | nil => intro s h; exact .inl h
  | cons e es ih =>
    intro s h
    simp only [List.foldl_cons] at h
    rcases ih _ h with h | ⟨e', h1, h2, h3⟩
    · split at h
      · rename_i hb
        simp only [List.cons_append, List.mem_cons, List.mem_append] at h
        rcases h with h | h | h
        · exact .inr ⟨e, by simp, hb, .inl h⟩
        · exact .inr ⟨e, by simp, hb, .inr h⟩
        · exact .inl h
      · exact .inl h
    · exact .inr ⟨e', by simp [h1], h2, h3⟩

/-- what stands before an operation whose edges are met is met -/
theorem bef_listed {ops : List Oper} {S : Nat → Prop} (hS : ∀ k o, S k → ops[k]? = some o → ∀ e ∈ o.after.toList, Region.binds .any e = true → S e.on) (hback : ∀ (k : Nat) o, ops[k]? = some o → ∀ e ∈ o.after.toList, Region.binds .any e = true → e.on < k) :
    ∀ (k : Nat) o, ops[k]? = some o → (∀ e ∈ o.after.toList, Region.binds .any e = true → S e.on) → ∀ j, j ∈ (befAll ops).getD k [] → S j := by
  intro k
  induction k using Nat.strongRecOn with
  | _ k ih =>
    intro o ho hr j hj
    obtain ⟨hlen, hget⟩ := befAll_len ops
    rw [hget k o ho] at hj
    rcases fold_mem _ (fun n => ((befAll ops).take k).getD n []) _ hj with h | ⟨e, h1, h2, h3⟩
    · simp at h
    · have hlt := hback k o ho e h1 h2
      have hSe := hr e h1 h2
      rcases h3 with rfl | h3
      · exact hSe
      · have hon : e.on < ops.length := by have := (List.getElem?_eq_some_iff.1 ho).1; omega
        have e1 : ops[e.on]? = some ops[e.on] := List.getElem?_eq_getElem hon
        have e2 : ((befAll ops).take k).getD e.on [] = (befAll ops).getD e.on [] := by simp only [List.getD]; rw [List.getElem?_take_of_lt hlt]
        rw [e2] at h3
        exact ih e.on hlt _ e1 (fun e' h h' => hS _ _ hSe e1 e' h h') j h3
theorem bef_lt {ops : List Oper} (hback : ∀ (k : Nat) o, ops[k]? = some o → ∀ e ∈ o.after.toList, Region.binds .any e = true → e.on < k) (k : Nat) (o : Oper) (ho : ops[k]? = some o) (j : Nat) (hj : j ∈ (befAll ops).getD k []) : j < k := by
  have := bef_listed (ops := ops) (S := fun m => m < k) (fun m o' hm ho' e he hb => Nat.lt_trans (hback m o' ho' e he hb) hm) hback k o ho (fun e he hb => hback k o ho e he hb) j hj
  exact this

end Go.Proofs.YtfiilgnebmidbaaDoor.Am
/-
  An abstract machine over this model's programs, ninth part, second half: one walk of the written order serves every order. No condition.
-/
namespace Go.Proofs.YtfiilgnebmidbaaDoor.Am
open Go Go.RowKit
set_option linter.unusedVariables false
set_option linter.unusedSimpArgs false

def cutφ (φ : Phi) (n : Nat) : Phi := fun i => if i < n then φ i else none
theorem cutφ_some {φ : Phi} {n i : Nat} {L : Loc} (h : cutφ φ n i = some L) : i < n ∧ φ i = some L := by
  unfold cutφ at h; split at h
  · exact ⟨‹_›, h⟩
  · cases h
theorem cutφ_mono {φ φ' : Phi} {n m : Nat} (hn : n ≤ m) (hm : ∀ i L, φ i = some L → i < n → φ' i = some L) : ∀ i L, cutφ φ n i = some L → cutφ φ' m i = some L := by
  intro i L h
  obtain ⟨h1, h2⟩ := cutφ_some h
  unfold cutφ; rw [if_pos (by omega)]; exact hm i L h2 h1
theorem cutφ_le {φ : Phi} {n : Nat} : ∀ i L, cutφ φ n i = some L → φ i = some L := fun i L h => (cutφ_some h).2

def OwnF (φ : Phi) (c : Nat → AObj) (b o : Nat) : Prop := ∃ i L, φ i = some L ∧ (c i).isRow = true ∧ L.block = b ∧ L.off ≤ o ∧ o < L.off + L.ext

/-- The state in the midst of a statement: which operations have been carried out ('S'), which writers (those before place s). -/
structure RInv (N : Nat) (l : List Oper) (t : Env) (H : AHeap) (es : List Ev) (W : World) (φs : Phi) (ws : World) (dfr : List Deferred) (S : Nat → Prop) (a : Act) (w : World) (φ : Phi) (c : Nat → AObj) (s : Nat) : Prop where
  defers : a.defers = dfr
  size : a.tmps.size = N
  wr : ∀ u e, es[u]? = some e → e.kd = .write → (S u ↔ u < s)
  sle : s ≤ l.length
  made : ∀ j x, S j → dAt l j = some x → (∀ j', j < j' → S j' → dAt l j' ≠ some x) → ∃ v', a.tmps[x]? = some v' ∧ V (cutφ φ (hAt H es (j + 1)).length) (vAt es j) v'
  kept : ∀ x v, eget t x = some v → (∀ j', S j' → dAt l j' ≠ some x) → ∃ v', a.tmps[x]? = some v' ∧ V (cutφ φ H.length) v v'
  dom : ∀ i L, φ i = some L → i < H.length ∨ ∃ j, S j ∧ (hAt H es j).length ≤ i ∧ i < (hAt H es (j + 1)).length
  c1 : ∀ i L, φ i = some L → i < (hAt H es s).length → c i = hget (hAt H es s) i
  c2 : ∀ i L j, φ i = some L → (hAt H es s).length ≤ i → S j → (hAt H es j).length ≤ i → i < (hAt H es (j + 1)).length → c i = hget (hAt H es (j + 1)) i
  obj1 : ∀ i L, φ i = some L → i < (hAt H es s).length → ObjOk W.heap.size (cutφ φ (hAt H es s).length) L (c i) w
  obj2 : ∀ i L j, φ i = some L → (hAt H es s).length ≤ i → S j → (hAt H es j).length ≤ i → i < (hAt H es (j + 1)).length → ObjOk W.heap.size (cutφ φ (hAt H es (j + 1)).length) L (c i) w
  disj : ∀ i j L M, i ≠ j → φ i = some L → φ j = some M → (c i).isRow = true → (c j).isRow = true → Apart L M
  mdisj : ∀ i j L M, i ≠ j → φ i = some L → φ j = some M → (c i).isMap = true → (c j).isMap = true → L.block ≠ M.block
  base : Below W.heap.size W w
  agree : ∀ i, i < H.length → φ i = φs i
  wsize : ws.heap.size ≤ w.heap.size
  cells : ∀ b o, b < ws.heap.size → ¬ Owned φs H b o → w.cell? ⟨b, o, none⟩ = ws.cell? ⟨b, o, none⟩
  frozen : ∀ b o, b < ws.heap.size → ¬ Owned φs H b o → w.frozen? ⟨b, o, none⟩ = ws.frozen? ⟨b, o, none⟩
  own : ∀ b o, b < ws.heap.size → OwnF φ c b o → Owned φs H b o

theorem ObjOk.mono {B : Nat} {φ φ' : Phi} {L : Loc} {o : AObj} {w : World} (hm : ∀ i L, φ i = some L → φ' i = some L) (h : ObjOk B φ L o w) : ObjOk B φ' L o w := by
  cases o with
  | dead => trivial
  | row ro cells => exact ⟨h.fits, fun j u hu => let ⟨u', k1, k2⟩ := h.reads j u hu; ⟨u', k1, k2.mono hm⟩, h.old, h.own, h.there⟩
  | map es => exact h
theorem ObjOk.alloc {B : Nat} {φ : Phi} {L : Loc} {o : AObj} {w : World} (h : ObjOk B φ L o w) (cs : Array Value) (T : TypeId) : ObjOk B φ L o (w.alloc (.cells cs T)) := by
  have hold : ∀ (b q : Nat), b < w.heap.size → (w.alloc (.cells cs T)).cell? ⟨b, q, none⟩ = w.cell? ⟨b, q, none⟩ := fun b q hb => World.cell?_alloc_lt _ _ _ hb
  have holdf : ∀ (b q : Nat), b < w.heap.size → (w.alloc (.cells cs T)).frozen? ⟨b, q, none⟩ = w.frozen? ⟨b, q, none⟩ := fun b q hb => World.frozen?_alloc_old _ _ _ (Nat.ne_of_lt hb)
  cases o with
  | dead => trivial
  | row ro cells =>
    refine ⟨h.fits, fun j u hu => ?_, h.old, fun hr => ⟨(h.own hr).1, by have := (h.own hr).2; simp; omega⟩, fun hr j hj => ?_⟩
    · obtain ⟨u', h1, h2⟩ := h.reads j u hu
      exact ⟨u', by rw [hold _ _ (World.block_lt_of_cell? _ _ h1)]; exact h1, h2⟩
    · rw [hold _ _ (h.own hr).2, holdf _ _ (h.own hr).2]; exact h.there hr j hj
  | map es =>
    exact ⟨h.off, h.ext, ⟨h.own.1, by have := h.own.2; simp; omega⟩, h.flat, by rw [(MapKept.heap_alloc w _).2 _ h.own.2]; exact h.holds⟩

section thm
variable {P : Program} {N : Nat} {l : List Oper} {t : Env} {H : AHeap} {es : List Ev} {W : World} {φs : Phi} {ws : World} {dfr : List Deferred}

theorem hAt_at {k : Nat} {e : Ev} (h : es[k]? = some e) : hAt H es (k + 1) = e.H' := by simp [hAt, h]

/-- what each operation of the written order does to memory -/
structure Facts (P : Program) (N : Nat) (l : List Oper) (t : Env) (H : AHeap) (es : List Ev) : Prop where
  len : es.length = l.length
  at_ : ∀ (k : Nat) o, l[k]? = some o → ∃ e, es[k]? = some e ∧ e.H = hAt H es k ∧ (∀ d, o.dst = some d → d < N) ∧ (∀ cs b, o.op ≠ .select cs b) ∧ OpEv P N l.toArray o (restr (o.looksAt l.toArray) (eAt l es t k)) e
  back : ∀ (k : Nat) o, l[k]? = some o → ∀ e ∈ o.after.toList, Region.binds .any e = true → e.on < k
  pair : ∀ j k oj ok, j < k → l[j]? = some oj → l[k]? = some ok → j ∈ (befAll l).getD k [] ∨ (oj.apart l.toArray ok = true ∧ ∀ e f, es[j]? = some e → es[k]? = some f → ¬ (e.kd = .write ∧ f.kd = .write))
  dyn : dynOk l es

theorem Facts.mk' (htr : Trace P N l.toArray l t H es) (hst : staticOk l l.toArray (es.map (·.kd.isWrite)) = true) (hdyn : dynOk l es) : Facts P N l t H es := by
  obtain ⟨h1, h2⟩ := trace_at l t H es htr
  unfold staticOk at hst
  simp only [List.all_eq_true, List.mem_range, Bool.and_eq_true] at hst
  refine ⟨h1, h2, fun k o ho e he hb => ?_, fun j k oj ok hjk hoj hok => ?_, hdyn⟩
  · have hk := (List.getElem?_eq_some_iff.1 ho).1
    have := (hst k hk).1 e (by rw [List.getD, ho]; simpa using he)
    rw [hb] at this
    simp at this
    simpa using this
  · have hk := (List.getElem?_eq_some_iff.1 hok).1
    have := (hst k hk).2 j hjk
    rw [Bool.or_eq_true] at this
    rcases this with h | h
    · exact .inl (by simpa using h)
    · rw [Bool.and_eq_true] at h
      refine .inr ⟨by have := h.1; rw [List.getD, List.getD, hoj, hok] at this; exact this, fun e f he hf ⟨h3, h4⟩ => ?_⟩
      have h5 := h.2
      simp only [List.getD, List.getElem?_map, he, hf, Option.map_some, Option.getD_some, h3, h4, Kd.isWrite] at h5
      simp at h5

variable (F : Facts P N l t H es)
include F

theorem Facts.grow (k : Nat) : (hAt H es k).length ≤ (hAt H es (k + 1)).length ∨ l.length ≤ k := by
  rcases Nat.lt_or_ge k l.length with h | h
  · obtain ⟨e, h1, h2, _, _, h5⟩ := F.at_ k _ (List.getElem?_eq_getElem h)
    refine .inl ?_
    rw [hAt_at h1, ← h2]
    unfold OpEv at h5
    cases hk : e.kd <;> rw [hk] at h5 <;> dsimp only at h5
    · rw [h5.2.2]; omega
    · rw [h5.2.2]; omega
    · rw [h5.2.2.2]; omega
    · rw [h5.2.2]; simp
    · exact h5.2.2
  · exact .inr h
theorem Facts.mono {j k : Nat} (hjk : j ≤ k) (hk : k ≤ l.length) : (hAt H es j).length ≤ (hAt H es k).length := by
  induction k with
  | zero => obtain rfl : j = 0 := by omega
            omega
  | succ k ih =>
    by_cases h : j = k + 1
    · subst h; omega
    · rcases F.grow k with h' | h'
      · exact Nat.le_trans (ih (by omega) (by omega)) h'
      · omega

/-- from one stage to a later one, when no writer between touches it -/
theorem Facts.chain {i j k : Nat} (hjk : j ≤ k) (hk : k ≤ l.length) (hi : i < (hAt H es j).length)
    (hw : ∀ u e, es[u]? = some e → e.kd = .write → j ≤ u → u < k → hget e.H' i = hget e.H i) : hget (hAt H es k) i = hget (hAt H es j) i := by
  induction k with
  | zero => obtain rfl : j = 0 := by omega
            rfl
  | succ k ih =>
    by_cases h : j = k + 1
    · subst h; rfl
    · have hkl : k < l.length := by omega
      obtain ⟨e, h1, h2, _, _, h5⟩ := F.at_ k _ (List.getElem?_eq_getElem hkl)
      rw [← ih (by omega) (by omega) (fun u e h3 h4 h5 h6 => hw u e h3 h4 h5 (by omega)), hAt_at h1, ← h2]
      have hik : i < e.H.length := by rw [h2]; exact Nat.lt_of_lt_of_le hi (F.mono (by omega) (by omega))
      unfold OpEv at h5
      cases hkd : e.kd <;> rw [hkd] at h5 <;> dsimp only at h5
      · rw [h5.2.2]
      · rw [h5.2.2]
      · rw [h5.2.2.2]
      · rw [h5.2.2]; exact hget_append_lt hik
      · exact hw k e h1 hkd (by omega) (by omega)


omit F in
theorem put_get {a : Act} {d : Option Tmp} {v' : Value} {x : Nat} (h : d ≠ some x) : (a.put d v').tmps[x]? = a.tmps[x]? := by
  cases d with
  | none => rfl
  | some d => simp only [Act.put]; rw [Array.getElem?_setIfInBounds_ne (fun he => h (by rw [he]))]
omit F in
theorem put_size {a : Act} {d : Option Tmp} {v' : Value} : (a.put d v').tmps.size = a.tmps.size := by cases d <;> simp [Act.put]
omit F in
theorem put_defers' {a : Act} {d : Option Tmp} {v' : Value} : (a.put d v').defers = a.defers := by cases d <;> simp [Act.put]

/-- operation k may be carried out: it has not been, and what its edges name has been -/
structure Ready (l : List Oper) (S : Nat → Prop) (k : Nat) (o : Oper) : Prop where
  op : l[k]? = some o
  not_ : ¬ S k
  edges : ∀ e ∈ o.after.toList, Region.binds .any e = true → S e.on
  closed : ∀ m o', S m → l[m]? = some o' → ∀ e ∈ o'.after.toList, Region.binds .any e = true → S e.on

variable {S : Nat → Prop} {k : Nat} {o : Oper}

theorem Ready.bef (R : Ready l S k o) (j : Nat) (hj : j ∈ (befAll l).getD k []) : S j := bef_listed R.closed F.back k o R.op R.edges j hj
theorem Ready.bef' (R : Ready l S k o) (j : Nat) (hS : S j) (hj : j < l.length) : k ∉ (befAll l).getD j [] := fun h =>
  R.not_ (bef_listed R.closed F.back j _ (List.getElem?_eq_getElem hj) (R.closed j _ hS (List.getElem?_eq_getElem hj)) k h)

theorem Ready.dst_later (R : Ready l S k o) {x j : Nat} (hx : x ∈ o.looksAt l.toArray) (hS : S j) (hkj : k < j) : dAt l j ≠ some x := by
  intro hd
  cases hj : l[j]? with
  | none => simp [dAt, hj] at hd
  | some oj =>
    simp [dAt, hj] at hd
    have hlt := (List.getElem?_eq_some_iff.1 hj).1
    rcases F.pair k j o oj hkj R.op hj with h | ⟨h, _⟩
    · exact R.bef' F j hS hlt h
    · exact (Oper.apart_spec h).2.2 x hd hx

theorem Ready.env (R : Ready l S k o) {a : Act} {w : World} {φ : Phi} {c : Nat → AObj} {s : Nat} (I : RInv N l t H es W φs ws dfr S a w φ c s) :
    EnvR (cutφ φ (hAt H es k).length) N (restr (o.looksAt l.toArray) (eAt l es t k)) a := by
  have hk := (List.getElem?_eq_some_iff.1 R.op).1
  refine ⟨I.size, fun x v e => ?_⟩
  obtain ⟨hx, hv⟩ := eget_restr e
  have hlater : ∀ j', S j' → k ≤ j' → dAt l j' ≠ some x := fun j' hS hkj => by
    by_cases he : k = j'
    · subst he; exact absurd hS R.not_
    · exact R.dst_later F hx hS (by omega)
  rcases eAt_get k hv with ⟨j, h1, h2, h3, h4⟩ | ⟨h1, h2⟩
  · have hj : l[j]? = some l[j] := List.getElem?_eq_getElem (by omega)
    have hd : l[j].dst = some x := by simpa [dAt, hj] using h2
    have hS : S j := by
      rcases F.pair j k _ o h1 hj R.op with h | ⟨h, _⟩
      · exact R.bef F j h
      · exact absurd hx ((Oper.apart_spec h).1 x hd)
    obtain ⟨v', k1, k2⟩ := I.made j x hS h2 (fun j' a b => by
      rcases Nat.lt_or_ge j' k with h | h
      · exact h4 j' a h
      · exact hlater j' b h)
    exact ⟨v', k1, by rw [h3]; exact k2.mono (cutφ_mono (F.mono (by omega) (by omega)) fun _ _ e _ => e)⟩
  · obtain ⟨v', k1, k2⟩ := I.kept x v h1 (fun j' b => by
      rcases Nat.lt_or_ge j' k with h | h
      · exact h2 j' h
      · exact hlater j' b h)
    exact ⟨v', k1, k2.mono (cutφ_mono (F.mono (Nat.zero_le k) (by omega)) fun _ _ e _ => e)⟩

/-- the frame behind operation k -/
theorem Ready.put (R : Ready l S k o) {a : Act} {w : World} {φ φ' : Phi} {c : Nat → AObj} {s : Nat} (I : RInv N l t H es W φs ws dfr S a w φ c s) (hm : ∀ i L, φ i = some L → φ' i = some L) {v' : Value}
    (hd : ∀ d, o.dst = some d → d < N) (hv : V (cutφ φ' (hAt H es (k + 1)).length) (vAt es k) v') :
    (∀ j x, (S j ∨ j = k) → dAt l j = some x → (∀ j', j < j' → (S j' ∨ j' = k) → dAt l j' ≠ some x) → ∃ u', (a.put o.dst v').tmps[x]? = some u' ∧ V (cutφ φ' (hAt H es (j + 1)).length) (vAt es j) u') ∧
    (∀ x v, eget t x = some v → (∀ j', (S j' ∨ j' = k) → dAt l j' ≠ some x) → ∃ u', (a.put o.dst v').tmps[x]? = some u' ∧ V (cutφ φ' H.length) v u') := by
  have hdk : dAt l k = o.dst := by simp [dAt, R.op]
  constructor
  · intro j x hS hx hno
    by_cases hjk : j = k
    · subst hjk
      rw [hdk] at hx
      refine ⟨v', ?_, hv⟩
      rw [hx]
      have : x < a.tmps.size := by rw [I.size]; exact hd x hx
      simp [Act.put, this]
    · have hSj : S j := by rcases hS with h | h; exact h; exact absurd h hjk
      have hne : o.dst ≠ some x := by
        intro he
        rcases Nat.lt_or_ge j k with h | h
        · exact hno k h (.inr rfl) (by rw [hdk]; exact he)
        · have hkj : k < j := by omega
          cases hj : l[j]? with
          | none => simp [dAt, hj] at hx
          | some oj =>
            have hlt := (List.getElem?_eq_some_iff.1 hj).1
            have hxj : oj.dst = some x := by simpa [dAt, hj] using hx
            rcases F.pair k j o oj hkj R.op hj with h | ⟨h, _⟩
            · exact R.bef' F j hSj hlt h
            · exact (Oper.apart_spec h).2.1 x he hxj
      obtain ⟨u', h1, h2⟩ := I.made j x hSj hx (fun j' a b => hno j' a (.inl b))
      exact ⟨u', by rw [put_get hne]; exact h1, h2.mono (cutφ_mono (Nat.le_refl _) fun i L e _ => hm i L e)⟩
  · intro x v hx hno
    obtain ⟨u', h1, h2⟩ := I.kept x v hx (fun j' b => hno j' (.inl b))
    exact ⟨u', by rw [put_get (by rw [← hdk]; exact hno k (.inr rfl))]; exact h1, h2.mono (cutφ_mono (Nat.le_refl _) fun i L e _ => hm i L e)⟩

omit F in
theorem RInv.obj {a : Act} {w : World} {φ : Phi} {c : Nat → AObj} {s : Nat} (F : Facts P N l t H es) (I : RInv N l t H es W φs ws dfr S a w φ c s) (i : Nat) (L : Loc) (hi : φ i = some L) : ObjOk W.heap.size φ L (c i) w := by
  rcases Nat.lt_or_ge i (hAt H es s).length with h | h
  · exact (I.obj1 i L hi h).mono cutφ_le
  · rcases I.dom i L hi with h' | ⟨j, h1, h2, h3⟩
    · have : H.length ≤ (hAt H es s).length := F.mono (Nat.zero_le s) I.sle
      omega
    · exact (I.obj2 i L j hi h h1 h2 h3).mono cutφ_le

/-- an operation that changes no memory -/
theorem Ready.same (R : Ready l S k o) {a : Act} {w : World} {φ : Phi} {c : Nat → AObj} {s : Nat} (I : RInv N l t H es W φs ws dfr S a w φ c s) {v' : Value} {e : Ev} (he : es[k]? = some e) (hkd : e.kd ≠ .write)
    (hH : hAt H es (k + 1) = hAt H es k) (hd : ∀ d, o.dst = some d → d < N) (hv : V (cutφ φ (hAt H es k).length) (vAt es k) v') :
    RInv N l t H es W φs ws dfr (fun j => S j ∨ j = k) (a.put o.dst v') w φ c s := by
  obtain ⟨h1, h2⟩ := R.put F I (fun _ _ e => e) (v' := v') hd (by rw [hH]; exact hv)
  exact { defers := put_defers'.trans I.defers, size := put_size.trans I.size
          wr := fun u f hu hf => ⟨fun h => by rcases h with h | rfl; exact (I.wr u f hu hf).1 h; rw [he] at hu; obtain rfl := Option.some.inj hu; exact absurd hf hkd, fun h => .inl ((I.wr u f hu hf).2 h)⟩
          sle := I.sle, made := h1, kept := h2
          dom := fun i L e => by rcases I.dom i L e with h | ⟨j, a, b⟩; exact .inl h; exact .inr ⟨j, .inl a, b⟩
          c1 := I.c1
          c2 := fun i L j e a b c d => by
            rcases b with b | rfl
            · exact I.c2 i L j e a b c d
            · rw [hH] at d; omega
          obj1 := I.obj1
          obj2 := fun i L j e a b c d => by
            rcases b with b | rfl
            · exact I.obj2 i L j e a b c d
            · rw [hH] at d; omega
          disj := I.disj, mdisj := I.mdisj, base := I.base, agree := I.agree, wsize := I.wsize, cells := I.cells, frozen := I.frozen, own := I.own }

theorem Ready.wanted (R : Ready l S k o) {a : Act} {w : World} {φ : Phi} {c : Nat → AObj} {s : Nat} (I : RInv N l t H es W φs ws dfr S a w φ c s) (h : Wants l.toArray o (restr (o.looksAt l.toArray) (eAt l es t k))) :
    Region.wanted o (yielded l.toArray a.tmps) = true := by
  unfold Wants at h
  cases hg : o.guard with
  | none => simp [Region.wanted, hg]
  | some g =>
    obtain ⟨j, want⟩ := g
    rw [hg] at h
    obtain ⟨d, h1, h2⟩ := h
    simp [Region.wanted, hg, yielded_ok (R.env F I) h1 h2]
theorem Ready.wantedNot (R : Ready l S k o) {a : Act} {w : World} {φ : Phi} {c : Nat → AObj} {s : Nat} (I : RInv N l t H es W φs ws dfr S a w φ c s) (h : WantsNot l.toArray o (restr (o.looksAt l.toArray) (eAt l es t k))) :
    Region.wanted o (yielded l.toArray a.tmps) = false := by
  unfold WantsNot at h
  cases hg : o.guard with
  | none => rw [hg] at h; exact h.elim
  | some g =>
    obtain ⟨j, want⟩ := g
    rw [hg] at h
    obtain ⟨d, h1, h2⟩ := h
    simpa [Region.wanted, hg] using yielded_no (R.env F I) h1 h2

/-- a cell that is read: memory as it is now has it -/
theorem Ready.readCell (R : Ready l S k o) {a : Act} {w : World} {φ : Phi} {c : Nat → AObj} {s : Nat} (I : RInv N l t H es W φs ws dfr S a w φ c s) {e : Ev} (he : es[k]? = some e) (heH : e.H = hAt H es k) {i : Nat} {L : Loc} (hi : φ i = some L) (hik : i < (hAt H es k).length)
    (hkd : e.kd ≠ .write) (hdyn : ∀ (u : Nat) (f : Ev), es[u]? = some f → f.kd = .write → unord (befAll l) k u → i < f.H.length → hget f.H' i = hget f.H i) : c i = hget (hAt H es k) i := by
  have hk := (List.getElem?_eq_some_iff.1 R.op).1
  have hA : ∀ x, x ≤ k → s ≤ x → i < (hAt H es x).length → hget (hAt H es k) i = hget (hAt H es x) i := fun x hx hsx hix =>
    F.chain hx (by omega) hix fun u f hu hf h1 h2 => by
      have hul : u < l.length := by rw [← F.len]; exact (List.getElem?_eq_some_iff.1 hu).1
      have e1 := List.getElem?_eq_getElem hul
      obtain ⟨f', g1, g2, _⟩ := F.at_ u _ e1
      rw [hu] at g1; obtain rfl := Option.some.inj g1
      refine hdyn u f hu hf ⟨fun h => ?_, fun h => ?_⟩ (by rw [g2]; exact Nat.lt_of_lt_of_le hix (F.mono h1 (by omega)))
      · have := bef_lt F.back u _ e1 k h; omega
      · have := (I.wr u f hu hf).1 (R.bef F u h); omega
  rcases Nat.lt_or_ge i (hAt H es s).length with his | his
  · rw [I.c1 i L hi his]
    rcases Nat.lt_or_ge k s with hks | hks
    · refine F.chain (Nat.le_of_lt hks) I.sle hik fun u f hu hf h1 h2 => ?_
      have hul : u < l.length := by rw [← F.len]; exact (List.getElem?_eq_some_iff.1 hu).1
      have e1 := List.getElem?_eq_getElem hul
      obtain ⟨f', g1, g2, _⟩ := F.at_ u _ e1
      rw [hu] at g1; obtain rfl := Option.some.inj g1
      have hSu : S u := (I.wr u f hu hf).2 h2
      have hku : u ≠ k := fun h => by subst h; rw [he] at hu; obtain rfl := Option.some.inj hu; exact hkd hf
      refine hdyn u f hu hf ⟨fun h => R.bef' F u hSu hul h, fun h => ?_⟩ (by rw [g2]; exact Nat.lt_of_lt_of_le hik (F.mono h1 (by omega)))
      have := bef_lt F.back k o R.op u h; omega
    · exact (hA s hks (Nat.le_refl _) his).symm
  · rcases I.dom i L hi with h | ⟨j, hj1, hj2, hj3⟩
    · have : H.length ≤ (hAt H es s).length := F.mono (Nat.zero_le s) I.sle
      omega
    · rw [I.c2 i L j hi his hj1 hj2 hj3]
      have hjl : j < l.length := by
        rcases Nat.lt_or_ge j l.length with h | h
        · exact h
        · have h4 : es[j]? = none := List.getElem?_eq_none (by rw [F.len]; exact h)
          rw [show hAt H es (j + 1) = H by simp [hAt, h4]] at hj3
          have : H.length ≤ (hAt H es s).length := F.mono (Nat.zero_le s) I.sle
          omega
      have hjk : j < k := by
        rcases Nat.lt_or_ge j k with h | h
        · exact h
        · have := F.mono h (by omega); omega
      have hsj : s ≤ j := by
        rcases Nat.lt_or_ge j s with h | h
        · have := F.mono (show j + 1 ≤ s by omega) I.sle; omega
        · exact h
      exact (hA (j + 1) (by omega) (by omega) hj3).symm

/-- a block is made -/
theorem Ready.made' (R : Ready l S k o) {a : Act} {w : World} {φ : Phi} {c : Nat → AObj} {s : Nat} (I : RInv N l t H es W φs ws dfr S a w φ c s) {e : Ev} {cells : List Value} (he : es[k]? = some e) (heH : e.H = hAt H es k) (hkd : e.kd = .alloc cells)
    (hH : e.H' = e.H ++ [.row false cells]) (hd : ∀ d, o.dst = some d → d < N) {cs : Array Value} {T : TypeId} {v' : Value} (hle : cells.length ≤ cs.size)
    (hcs : ∀ (j : Nat) u u', cells[j]? = some u → cs[j]? = some u' → V (cutφ φ (hAt H es k).length) u u')
    (hv : ∀ φ' : Phi, φ' e.H.length = some ⟨w.heap.size, 0, cs.size⟩ → (∀ i L, cutφ φ (hAt H es k).length i = some L → φ' i = some L) → V φ' e.v v')
    (hdyn : ∀ (u : Nat) (f : Ev), es[u]? = some f → f.kd = .write → unord (befAll l) k u → k < u → hget f.H' e.H.length = hget f.H e.H.length) :
    ∃ φ' c', RInv N l t H es W φs ws dfr (fun j => S j ∨ j = k) (a.put o.dst v') (w.alloc (.cells cs T)) φ' c' s := by
  have hk := (List.getElem?_eq_some_iff.1 R.op).1
  have hn : (hAt H es (k + 1)).length = (hAt H es k).length + 1 := by rw [hAt_at he, hH, heH]; simp
  have hnew : φ (hAt H es k).length = none := by
    cases hφ : φ (hAt H es k).length with
    | none => rfl
    | some L =>
      rcases I.dom _ L hφ with h | ⟨j, hj1, hj2, hj3⟩
      · have : H.length ≤ (hAt H es k).length := F.mono (Nat.zero_le k) (by omega)
        omega
      · have hjk : j ≠ k := fun h => by subst h; exact R.not_ hj1
        rcases Nat.lt_or_ge j k with h | h
        · have := F.mono (show j + 1 ≤ k by omega) (by omega); omega
        · rcases Nat.lt_or_ge j l.length with hjl | hjl
          · have := F.mono (show k + 1 ≤ j by omega) (by omega); omega
          · have h4 : es[j]? = none := List.getElem?_eq_none (by rw [F.len]; exact hjl)
            rw [show hAt H es (j + 1) = H by simp [hAt, h4]] at hj3
            have : H.length ≤ (hAt H es k).length := F.mono (Nat.zero_le k) (by omega)
            omega
  let n := (hAt H es k).length
  have hnn : n = (hAt H es k).length := rfl
  let φ' : Phi := fun i => if i = n then some ⟨w.heap.size, 0, cs.size⟩ else φ i
  let c' : Nat → AObj := fun i => if i = n then .row false cells else c i
  have hm : ∀ i L, φ i = some L → φ' i = some L := fun i L e => by
    have : i ≠ n := fun he => by rw [he, hnn, hnew] at e; cases e
    simp [φ', this, e]
  have hφn : φ' n = some ⟨w.heap.size, 0, cs.size⟩ := by simp [φ']
  have hφo : ∀ i, i ≠ n → φ' i = φ i := fun i hi => by simp [φ', hi]
  have hcn : c' n = .row false cells := by simp [c']
  have hco : ∀ i, i ≠ n → c' i = c i := fun i hi => by simp [c', hi]
  have hold : ∀ (b o : Nat), b < w.heap.size → (w.alloc (.cells cs T)).cell? ⟨b, o, none⟩ = w.cell? ⟨b, o, none⟩ := fun b o hb => World.cell?_alloc_lt _ _ _ hb
  have holdf : ∀ (b o : Nat), b < w.heap.size → (w.alloc (.cells cs T)).frozen? ⟨b, o, none⟩ = w.frozen? ⟨b, o, none⟩ := fun b o hb => World.frozen?_alloc_old _ _ _ (Nat.ne_of_lt hb)
  have hrow : ∀ j, j < cs.size → (∃ u, (w.alloc (.cells cs T)).cell? ⟨w.heap.size, 0 + j, none⟩ = some u) ∧ (w.alloc (.cells cs T)).frozen? ⟨w.heap.size, 0 + j, none⟩ = false := fun j hj => by
    refine ⟨⟨cs[j], by rw [Nat.zero_add, World.cell?_alloc_new]; exact Array.getElem?_eq_getElem hj⟩, ?_⟩
    simp
  have hmine : ∀ i L, φ i = some L → (c i).isRow = true → L.block < w.heap.size := fun i L e hr => by
    have := I.obj F i L e
    cases ho : c i with
    | dead => rw [ho] at hr; cases hr
    | row ro cells =>
      rw [ho] at this hr
      cases ro with
      | true => cases hr
      | false => exact (this.own rfl).2
    | map es => rw [ho] at hr; cases hr
  have hvv : V (cutφ φ' (hAt H es (k + 1)).length) (vAt es k) v' := by
    have h1 : vAt es k = e.v := by simp [vAt, he]
    rw [h1]
    refine hv _ ?_ ?_
    · rw [heH]
      unfold cutφ; rw [if_pos (by omega)]; exact hφn
    · intro i L hi
      obtain ⟨h2, h3⟩ := cutφ_some hi
      unfold cutφ; rw [if_pos (by omega)]; exact hm i L h3
  obtain ⟨g1, g2⟩ := R.put F I hm (v' := v') hd hvv
  have hnewobj : ∀ m, n < m → ObjOk W.heap.size (cutφ φ' m) ⟨w.heap.size, 0, cs.size⟩ (.row false cells) (w.alloc (.cells cs T)) := fun m hnm => by
    refine ⟨hle, ?_, (by intro h; cases h), fun _ => ⟨I.base.size, by simp⟩, fun _ => hrow⟩
    intro j u hu
    have hj : j < cs.size := by have := (List.getElem?_eq_some_iff.1 hu).1; omega
    exact ⟨cs[j], by rw [Nat.zero_add, World.cell?_alloc_new]; exact Array.getElem?_eq_getElem hj, (hcs j u _ hu (Array.getElem?_eq_getElem hj)).mono (cutφ_mono (by omega) fun i L e _ => hm i L e)⟩
  refine ⟨φ', c', ⟨put_defers'.trans I.defers, put_size.trans I.size, ?_, I.sle, g1, g2, ?_, ?_, ?_, ?_, ?_, ?_, ?_, I.base.alloc I.base.size _, ?_, ?_, ?_, ?_, ?_⟩⟩
  · intro u f hu hf
    refine ⟨fun h => ?_, fun h => .inl ((I.wr u f hu hf).2 h)⟩
    rcases h with h | rfl
    · exact (I.wr u f hu hf).1 h
    · rw [he] at hu; obtain rfl := Option.some.inj hu; rw [hkd] at hf; cases hf
  · intro i L hi
    by_cases hin : i = n
    · exact .inr ⟨k, .inr rfl, by omega, by omega⟩
    · rw [hφo i hin] at hi
      rcases I.dom i L hi with h | ⟨j, a, b⟩
      · exact .inl h
      · exact .inr ⟨j, .inl a, b⟩
  · intro i L hi his
    by_cases hin : i = n
    · subst hin
      rw [hcn]
      have hks : k < s := by
        rcases Nat.lt_or_ge k s with h | h
        · exact h
        · have := F.mono h (by omega); omega
      have h1 : hget (hAt H es s) n = hget (hAt H es (k + 1)) n := F.chain (by omega) I.sle (by omega) fun u f hu hf h1 h2 => by
        have hul : u < l.length := by rw [← F.len]; exact (List.getElem?_eq_some_iff.1 hu).1
        have hSu : S u := (I.wr u f hu hf).2 h2
        have := hdyn u f hu hf ⟨fun h => R.bef' F u hSu hul h, fun h => by have := bef_lt F.back k o R.op u h; omega⟩ (by omega)
        rw [heH] at this; exact this
      rw [h1, hAt_at he, hH, heH]
      exact (hget_len _ _).symm
    · rw [hφo i hin] at hi
      rw [hco i hin]; exact I.c1 i L hi his
  · intro i L j hi his hj hj2 hj3
    by_cases hin : i = n
    · subst hin
      have hjk : j = k := by
        rcases hj with hj | hj
        · exfalso
          have hne : j ≠ k := fun h => by subst h; exact R.not_ hj
          rcases Nat.lt_or_ge j k with h | h
          · have := F.mono (show j + 1 ≤ k by omega) (by omega); omega
          · rcases Nat.lt_or_ge j l.length with hjl | hjl
            · have := F.mono (show k + 1 ≤ j by omega) (by omega); omega
            · have h4 : es[j]? = none := List.getElem?_eq_none (by rw [F.len]; exact hjl)
              rw [show hAt H es (j + 1) = H by simp [hAt, h4]] at hj3
              have : H.length ≤ (hAt H es k).length := F.mono (Nat.zero_le k) (by omega)
              omega
        · exact hj
      subst hjk
      rw [hcn, hAt_at he, hH, heH]
      exact (hget_len _ _).symm
    · rw [hφo i hin] at hi
      rw [hco i hin]
      rcases hj with hj | rfl
      · exact I.c2 i L j hi his hj hj2 hj3
      · omega
  · intro i L hi his
    by_cases hin : i = n
    · subst hin
      rw [hφn] at hi
      obtain rfl := Option.some.inj hi
      rw [hcn]
      exact hnewobj _ (by omega)
    · rw [hφo i hin] at hi
      rw [hco i hin]
      exact ((I.obj1 i L hi his).alloc cs T).mono (cutφ_mono (Nat.le_refl _) fun i L e _ => hm i L e)
  · intro i L j hi his hj hj2 hj3
    by_cases hin : i = n
    · subst hin
      rw [hφn] at hi
      obtain rfl := Option.some.inj hi
      rw [hcn]
      exact hnewobj _ (by omega)
    · rw [hφo i hin] at hi
      rw [hco i hin]
      rcases hj with hj | rfl
      · exact ((I.obj2 i L j hi his hj hj2 hj3).alloc cs T).mono (cutφ_mono (Nat.le_refl _) fun i L e _ => hm i L e)
      · omega
  · intro i j L M hij ei ej hi hj
    by_cases h1 : i = n
    · subst h1
      rw [hφn] at ei; obtain rfl := Option.some.inj ei
      have h2 : j ≠ n := fun h => hij h.symm
      rw [hφo j h2] at ej; rw [hco j h2] at hj
      exact .inl (by have := hmine j M ej hj; simp; omega)
    · rw [hφo i h1] at ei; rw [hco i h1] at hi
      by_cases h2 : j = n
      · subst h2
        rw [hφn] at ej; obtain rfl := Option.some.inj ej
        exact .inl (by have := hmine i L ei hi; simp; omega)
      · rw [hφo j h2] at ej; rw [hco j h2] at hj
        exact I.disj i j L M hij ei ej hi hj
  · intro i j L M hij ei ej hi hj
    have h1 : i ≠ n := fun h => by subst h; rw [hcn] at hi; cases hi
    have h2 : j ≠ n := fun h => by subst h; rw [hcn] at hj; cases hj
    rw [hφo i h1] at ei; rw [hco i h1] at hi
    rw [hφo j h2] at ej; rw [hco j h2] at hj
    exact I.mdisj i j L M hij ei ej hi hj
  · intro i hi
    have : H.length ≤ n := F.mono (Nat.zero_le k) (by omega)
    rw [hφo i (by omega)]; exact I.agree i hi
  · have := I.wsize; simp; omega
  · intro b q hb hno
    rw [hold b q (by have := I.wsize; omega)]; exact I.cells b q hb hno
  · intro b q hb hno
    rw [holdf b q (by have := I.wsize; omega)]; exact I.frozen b q hb hno
  · rintro b q hb ⟨i, L, ei, hr, h1, h2, h3⟩
    by_cases hin : i = n
    · subst hin; rw [hφn] at ei; obtain rfl := Option.some.inj ei
      have := I.wsize; dsimp only at h1; omega
    · rw [hφo i hin] at ei; rw [hco i hin] at hr
      exact I.own b q hb ⟨i, L, ei, hr, h1, h2, h3⟩

/-- a writer, or a call -/
theorem Ready.wrote (R : Ready l S k o) {a : Act} {w : World} {φ : Phi} {c : Nat → AObj} {s : Nat} (I : RInv N l t H es W φs ws dfr S a w φ c s) {e : Ev} (he : es[k]? = some e) (heH : e.H = hAt H es k) (hkd : e.kd = .write)
    (hd : ∀ d, o.dst = some d → d < N) :
    Sim W (cutφ φ (hAt H es k).length) e.H w ∧ ∀ φ₂ w' v', Sim W φ₂ e.H' w' → V φ₂ e.v v' → Step (cutφ φ (hAt H es k).length) e.H w φ₂ e.H' w' →
      ∃ φ' c' s', RInv N l t H es W φs ws dfr (fun j => S j ∨ j = k) (a.put o.dst v') w' φ' c' s' := by
  have hk := (List.getElem?_eq_some_iff.1 R.op).1
  have hks : s ≤ k := by
    rcases Nat.lt_or_ge k s with h | h
    · exact absurd ((I.wr k e he hkd).2 h) R.not_
    · exact h
  have hnw : ∀ u f, es[u]? = some f → f.kd = .write → s ≤ u → u < k → False := fun u f hu hf h1 h2 => by
    have hul : u < l.length := by omega
    rcases F.pair u k _ o h2 (List.getElem?_eq_getElem hul) R.op with h | ⟨_, h⟩
    · have := (I.wr u f hu hf).1 (R.bef F u h); omega
    · exact h f e hu he ⟨hf, hkd⟩
  have hcc : ∀ i L, φ i = some L → i < (hAt H es k).length → c i = hget (hAt H es k) i := fun i L hi hik =>
    by
      rcases Nat.lt_or_ge i (hAt H es s).length with his | his
      · rw [I.c1 i L hi his]
        exact (F.chain hks (by omega) his fun u f hu hf h1 h2 => (hnw u f hu hf h1 h2).elim).symm
      · rcases I.dom i L hi with h | ⟨j, hj1, hj2, hj3⟩
        · have : H.length ≤ (hAt H es s).length := F.mono (Nat.zero_le s) I.sle
          omega
        · rw [I.c2 i L j hi his hj1 hj2 hj3]
          have hjl : j < l.length := by
            rcases Nat.lt_or_ge j l.length with h | h
            · exact h
            · have h4 : es[j]? = none := List.getElem?_eq_none (by rw [F.len]; exact h)
              rw [show hAt H es (j + 1) = H by simp [hAt, h4]] at hj3
              have : H.length ≤ (hAt H es s).length := F.mono (Nat.zero_le s) I.sle
              omega
          have hjk : j < k := by
            rcases Nat.lt_or_ge j k with h | h
            · exact h
            · have := F.mono h (by omega); omega
          have hsj : s ≤ j := by
            rcases Nat.lt_or_ge j s with h | h
            · have := F.mono (show j + 1 ≤ s by omega) I.sle; omega
            · exact h
          exact (F.chain (show j + 1 ≤ k by omega) (by omega) hj3 fun u f hu hf h1 h2 => (hnw u f hu hf (by omega) h2).elim).symm
  -- what is there beyond
  have hbey : ∀ i L, φ i = some L → (hAt H es k).length ≤ i → (hAt H es (k + 1)).length ≤ i ∧ (c i).isMap = false ∧ ∃ j, S j ∧ k < j ∧ (hAt H es j).length ≤ i ∧ i < (hAt H es (j + 1)).length := fun i L hi hik => by
    rcases I.dom i L hi with h | ⟨j, hj1, hj2, hj3⟩
    · have : H.length ≤ (hAt H es k).length := F.mono (Nat.zero_le k) (by omega)
      omega
    · have hjl : j < l.length := by
        rcases Nat.lt_or_ge j l.length with h | h
        · exact h
        · have h4 : es[j]? = none := List.getElem?_eq_none (by rw [F.len]; exact h)
          rw [show hAt H es (j + 1) = H by simp [hAt, h4]] at hj3
          have : H.length ≤ (hAt H es k).length := F.mono (Nat.zero_le k) (by omega)
          omega
      have hne : j ≠ k := fun h => by subst h; exact R.not_ hj1
      have hkj : k < j := by
        rcases Nat.lt_or_ge k j with h | h
        · exact h
        · have := F.mono (show j + 1 ≤ k by omega) (by omega); omega
      refine ⟨Nat.le_trans (F.mono (show k + 1 ≤ j by omega) (by omega)) hj2, ?_, j, hj1, hkj, hj2, hj3⟩
      have his : (hAt H es s).length ≤ i := Nat.le_trans (F.mono hks (by omega)) hik
      rw [I.c2 i L j hi his hj1 hj2 hj3]
      obtain ⟨f, g1, g2, _, _, g5⟩ := F.at_ j _ (List.getElem?_eq_getElem hjl)
      rw [hAt_at g1] at hj3 ⊢
      rw [← g2] at hj2
      unfold OpEv at g5
      cases hf : f.kd <;> rw [hf] at g5 <;> dsimp only at g5
      · rw [g5.2.2] at hj3; omega
      · rw [g5.2.2] at hj3; omega
      · rw [g5.2.2.2] at hj3; omega
      · rename_i cells
        rw [g5.2.2] at hj3 ⊢
        rw [hget_append_ge hj2]
        have : i - f.H.length = 0 := by simp at hj3; omega
        rw [this]; rfl
      · have := (I.wr j f g1 hf).1 hj1; omega
  constructor
  · refine ⟨fun i L hi => ?_, fun i L hi => ?_, fun i j L M hij ei ej hi hj => ?_, fun i j L M hij ei ej hi hj => ?_, I.base⟩
    · rw [heH]; exact (cutφ_some hi).1
    · obtain ⟨h1, h2⟩ := cutφ_some hi
      rw [heH, ← hcc i L h2 h1]
      rcases Nat.lt_or_ge i (hAt H es s).length with his | his
      · exact (I.obj1 i L h2 his).mono (cutφ_mono (F.mono hks (by omega)) fun _ _ e _ => e)
      · rcases I.dom i L h2 with h | ⟨j, hj1, hj2, hj3⟩
        · have : H.length ≤ (hAt H es s).length := F.mono (Nat.zero_le s) I.sle
          omega
        · have hjk : j < k := by
            rcases Nat.lt_or_ge j k with h | h
            · exact h
            · rcases Nat.lt_or_ge j l.length with hjl | hjl
              · have := F.mono h (by omega); omega
              · have h4 : es[j]? = none := List.getElem?_eq_none (by rw [F.len]; exact hjl)
                rw [show hAt H es (j + 1) = H by simp [hAt, h4]] at hj3
                have : H.length ≤ (hAt H es s).length := F.mono (Nat.zero_le s) I.sle
                omega
          exact (I.obj2 i L j h2 his hj1 hj2 hj3).mono (cutφ_mono (F.mono (show j + 1 ≤ k by omega) (by omega)) fun _ _ e _ => e)
    · obtain ⟨h1, h2⟩ := cutφ_some ei
      obtain ⟨h3, h4⟩ := cutφ_some ej
      rw [heH, ← hcc i L h2 h1] at hi
      rw [heH, ← hcc j M h4 h3] at hj
      exact I.disj i j L M hij h2 h4 hi hj
    · obtain ⟨h1, h2⟩ := cutφ_some ei
      obtain ⟨h3, h4⟩ := cutφ_some ej
      rw [heH, ← hcc i L h2 h1] at hi
      rw [heH, ← hcc j M h4 h3] at hj
      exact I.mdisj i j L M hij h2 h4 hi hj
  · intro φ₂ w' v' hS2 hV2 hst
    have hn1 : e.H'.length = (hAt H es (k + 1)).length := by rw [hAt_at he]
    have hkk : (hAt H es k).length ≤ (hAt H es (k + 1)).length := F.mono (by omega) (by omega)
    let φ' : Phi := fun i => if i < (hAt H es (k + 1)).length then φ₂ i else φ i
    let c' : Nat → AObj := fun i => if i < (hAt H es (k + 1)).length then hget e.H' i else c i
    have hφl : ∀ i, i < (hAt H es (k + 1)).length → φ' i = φ₂ i := fun i hi => by simp [φ', hi]
    have hφg : ∀ i, (hAt H es (k + 1)).length ≤ i → φ' i = φ i := fun i hi => by simp [φ', Nat.not_lt.2 hi]
    have hcl : ∀ i, i < (hAt H es (k + 1)).length → c' i = hget e.H' i := fun i hi => by simp [c', hi]
    have hcg : ∀ i, (hAt H es (k + 1)).length ≤ i → c' i = c i := fun i hi => by simp [c', Nat.not_lt.2 hi]
    have hold2 : ∀ i, i < (hAt H es k).length → φ₂ i = φ i := fun i hi => by
      have := hst.agree i (by rw [heH]; exact hi)
      rw [this]; unfold cutφ; rw [if_pos hi]
    have hm : ∀ i L, φ i = some L → φ' i = some L := fun i L e1 => by
      rcases Nat.lt_or_ge i (hAt H es k).length with h | h
      · rw [hφl i (by omega), hold2 i h]; exact e1
      · rw [hφg i (hbey i L e1 h).1]; exact e1
    have h2' : ∀ i L, φ₂ i = some L → φ' i = some L ∧ i < (hAt H es (k + 1)).length := fun i L e1 => by
      have := hS2.dom i L e1
      rw [hn1] at this
      exact ⟨by rw [hφl i this]; exact e1, this⟩
    have h2c : ∀ i L, φ₂ i = some L → cutφ φ' (hAt H es (k + 1)).length i = some L := fun i L e1 => by
      obtain ⟨q1, q2⟩ := h2' i L e1
      unfold cutφ; rw [if_pos q2]; exact q1
    obtain ⟨g1, g2⟩ := R.put F I hm (v' := v') hd (by rw [show vAt es k = e.v by simp [vAt, he]]; exact hV2.mono h2c)
    have hownφ : ∀ b q, Owned (cutφ φ (hAt H es k).length) e.H b q → OwnF φ c b q := by
      rintro b q ⟨i, L, e1, e2, e3⟩
      obtain ⟨q1, q2⟩ := cutφ_some e1
      exact ⟨i, L, q2, by rw [hcc i L q2 q1, ← heH]; exact e2, e3⟩
    -- a later block is not touched
    have hlater : ∀ i L, φ i = some L → (hAt H es (k + 1)).length ≤ i → (c i).isRow = true → ∀ q, q < L.ext → L.block < w.heap.size ∧ ¬ Owned (cutφ φ (hAt H es k).length) e.H L.block (L.off + q) := by
      intro i L hi hik hr q hq
      constructor
      · have := I.obj F i L hi
        cases ho : c i with
        | dead => rw [ho] at hr; cases hr
        | row ro cells =>
          rw [ho] at this hr
          cases ro with
          | true => cases hr
          | false => exact (this.own rfl).2
        | map es => rw [ho] at hr; cases hr
      · rintro ⟨j, M, e1, e2, e3, e4, e5⟩
        obtain ⟨q1, q2⟩ := cutφ_some e1
        have := I.disj i j L M (by omega) hi q2 hr (by rw [hcc j M q2 q1, ← heH]; exact e2)
        unfold Apart at this; omega
    have hcrow : ∀ i L, φ i = some L → (hAt H es (k + 1)).length ≤ i → ∃ cells, c i = .row false cells := fun i L hi hik => by
      obtain ⟨_, _, j, hj1, hkj, hj2, hj3⟩ := hbey i L hi (by omega)
      have his : (hAt H es s).length ≤ i := Nat.le_trans (F.mono hks (by omega)) (by omega)
      have hjl : j < l.length := by
        rcases Nat.lt_or_ge j l.length with h | h
        · exact h
        · have h4 : es[j]? = none := List.getElem?_eq_none (by rw [F.len]; exact h)
          rw [show hAt H es (j + 1) = H by simp [hAt, h4]] at hj3
          have : H.length ≤ (hAt H es k).length := F.mono (Nat.zero_le k) (by omega)
          omega
      rw [I.c2 i L j hi his hj1 hj2 hj3]
      obtain ⟨f, g1, g2, _, _, g5⟩ := F.at_ j _ (List.getElem?_eq_getElem hjl)
      rw [hAt_at g1] at hj3 ⊢
      rw [← g2] at hj2
      unfold OpEv at g5
      cases hf : f.kd <;> rw [hf] at g5 <;> dsimp only at g5
      · rw [g5.2.2] at hj3; omega
      · rw [g5.2.2] at hj3; omega
      · rw [g5.2.2.2] at hj3; omega
      · rename_i cells
        rw [g5.2.2] at hj3 ⊢
        rw [hget_append_ge hj2]
        have : i - f.H.length = 0 := by simp at hj3; omega
        exact ⟨cells, by rw [this]; rfl⟩
      · have := (I.wr j f g1 hf).1 hj1; omega
    refine ⟨φ', c', k + 1, ⟨put_defers'.trans I.defers, put_size.trans I.size, ?_, by omega, g1, g2, ?_, ?_, ?_, ?_, ?_, ?_, ?_, hS2.base, ?_, ?_, ?_, ?_, ?_⟩⟩
    · intro u f hu hf
      have hul : u < l.length := by rw [← F.len]; exact (List.getElem?_eq_some_iff.1 hu).1
      constructor
      · rintro (h | rfl)
        · have := (I.wr u f hu hf).1 h; omega
        · omega
      · intro h
        by_cases huk : u = k
        · exact .inr huk
        · rcases F.pair u k _ o (by omega) (List.getElem?_eq_getElem hul) R.op with h' | ⟨_, h'⟩
          · exact .inl (R.bef F u h')
          · exact absurd ⟨hf, hkd⟩ (h' f e hu he)
    · intro i L hi
      rcases Nat.lt_or_ge i (hAt H es (k + 1)).length with h | h
      · rcases Nat.lt_or_ge i (hAt H es k).length with h' | h'
        · rw [hφl i h, hold2 i h'] at hi
          rcases I.dom i L hi with h | ⟨j, a, b⟩
          · exact .inl h
          · exact .inr ⟨j, .inl a, b⟩
        · exact .inr ⟨k, .inr rfl, h', h⟩
      · rw [hφg i h] at hi
        rcases I.dom i L hi with h | ⟨j, a, b⟩
        · exact .inl h
        · exact .inr ⟨j, .inl a, b⟩
    · intro i L hi h
      rw [hcl i h, hAt_at he]
    · intro i L j hi his hj hj2 hj3
      rw [hφg i his] at hi
      rw [hcg i his]
      rcases hj with hj | rfl
      · exact I.c2 i L j hi (Nat.le_trans (F.mono (show s ≤ k + 1 by omega) (by omega)) his) hj hj2 hj3
      · omega
    · intro i L hi h
      rw [hφl i h] at hi
      rw [hcl i h]
      exact (hS2.obj i L hi).mono h2c
    · intro i L j hi his hj hj2 hj3
      rw [hφg i his] at hi
      rw [hcg i his]
      rcases hj with hj | rfl
      · have h0 := (I.obj2 i L j hi (Nat.le_trans (F.mono (show s ≤ k + 1 by omega) (by omega)) his) hj hj2 hj3).mono (cutφ_mono (φ' := φ') (Nat.le_refl _) fun i L e _ => hm i L e)
        obtain ⟨cells, hc⟩ := hcrow i L hi his
        have hr : (c i).isRow = true := by rw [hc]; rfl
        rw [hc] at h0 ⊢
        refine ⟨h0.fits, fun q u hu => ?_, h0.old, fun hr => ⟨(h0.own hr).1, Nat.lt_of_lt_of_le (h0.own hr).2 hst.size⟩, fun hr' q hq => ?_⟩
        · have hq : q < L.ext := by have := (List.getElem?_eq_some_iff.1 hu).1; have := h0.fits; omega
          obtain ⟨q1, q2⟩ := hlater i L hi his hr q hq
          rw [hst.cells _ _ q1 q2]; exact h0.reads q u hu
        · obtain ⟨q1, q2⟩ := hlater i L hi his hr q hq
          rw [hst.cells _ _ q1 q2, hst.frozen _ _ q1 q2]; exact h0.there hr' q hq
      · omega
    · have cross : ∀ i j L M, i < (hAt H es (k + 1)).length → (hAt H es (k + 1)).length ≤ j → φ' i = some L → φ' j = some M → (c' i).isRow = true → (c' j).isRow = true → Apart L M := by
        intro i j L M h1 h2 ei ej hi hj
        rw [hφl i h1] at ei; rw [hcl i h1] at hi
        rw [hφg j h2] at ej; rw [hcg j h2] at hj
        rcases Nat.eq_zero_or_pos L.ext with h0 | h0
        · exact .inr (.inl h0)
        · rcases Nat.eq_zero_or_pos M.ext with h0' | h0'
          · exact .inr (.inr (.inl h0'))
          · rcases Classical.em (Apart L M) with h | h
            · exact h
            · exfalso
              have hmax : ∃ q, q < M.ext ∧ L.off ≤ M.off + q ∧ M.off + q < L.off + L.ext ∧ L.block = M.block := by
                unfold Apart at h
                refine ⟨max L.off M.off - M.off, by omega, by omega, by omega, by omega⟩
              obtain ⟨q, q1, q2, q3, q4⟩ := hmax
              obtain ⟨r1, r2⟩ := hlater j M ej h2 hj q q1
              exact r2 (hst.own _ _ r1 ⟨i, L, ei, hi, q4, q2, q3⟩)
      intro i j L M hij ei ej hi hj
      rcases Nat.lt_or_ge i (hAt H es (k + 1)).length with h1 | h1 <;> rcases Nat.lt_or_ge j (hAt H es (k + 1)).length with h2 | h2
      · rw [hφl i h1] at ei; rw [hcl i h1] at hi; rw [hφl j h2] at ej; rw [hcl j h2] at hj
        exact hS2.disj i j L M hij ei ej hi hj
      · exact cross i j L M h1 h2 ei ej hi hj
      · exact (cross j i M L h2 h1 ej ei hj hi).symm
      · rw [hφg i h1] at ei; rw [hcg i h1] at hi; rw [hφg j h2] at ej; rw [hcg j h2] at hj
        exact I.disj i j L M hij ei ej hi hj
    · intro i j L M hij ei ej hi hj
      have nomap : ∀ i L, (hAt H es (k + 1)).length ≤ i → φ' i = some L → (c' i).isMap = true → False := fun i L h e1 e2 => by
        rw [hφg i h] at e1; rw [hcg i h] at e2
        obtain ⟨cells, hc⟩ := hcrow i L e1 h
        rw [hc] at e2; cases e2
      rcases Nat.lt_or_ge i (hAt H es (k + 1)).length with h1 | h1
      · rcases Nat.lt_or_ge j (hAt H es (k + 1)).length with h2 | h2
        · rw [hφl i h1] at ei; rw [hcl i h1] at hi; rw [hφl j h2] at ej; rw [hcl j h2] at hj
          exact hS2.mdisj i j L M hij ei ej hi hj
        · exact (nomap j M h2 ej hj).elim
      · exact (nomap i L h1 ei hi).elim
    · intro i hi
      have h1 : H.length ≤ (hAt H es k).length := F.mono (Nat.zero_le k) (by omega)
      rw [hφl i (by omega), hold2 i (by omega)]; exact I.agree i hi
    · exact Nat.le_trans I.wsize hst.size
    · intro b q hb hno
      rw [hst.cells b q (Nat.lt_of_lt_of_le hb I.wsize) (fun h => hno (I.own b q hb (hownφ b q h)))]; exact I.cells b q hb hno
    · intro b q hb hno
      rw [hst.frozen b q (Nat.lt_of_lt_of_le hb I.wsize) (fun h => hno (I.own b q hb (hownφ b q h)))]; exact I.frozen b q hb hno
    · rintro b q hb ⟨i, L, ei, hr, h1, h2, h3⟩
      rcases Nat.lt_or_ge i (hAt H es (k + 1)).length with h | h
      · rw [hφl i h] at ei; rw [hcl i h] at hr
        exact I.own b q hb (hownφ b q (hst.own b q (Nat.lt_of_lt_of_le hb I.wsize) ⟨i, L, ei, hr, h1, h2, h3⟩))
      · rw [hφg i h] at ei; rw [hcg i h] at hr
        exact I.own b q hb ⟨i, L, ei, hr, h1, h2, h3⟩

end thm
end Go.Proofs.YtfiilgnebmidbaaDoor.Am
/-
  An abstract machine over this model's programs, ninth part, its end: a statement whose order is open, by its written order. No condition.
-/
namespace Go.Proofs.YtfiilgnebmidbaaDoor.Am
open Go Go.RowKit
set_option linter.unusedVariables false
set_option linter.unusedSimpArgs false

def cntF (l : List Bool) : Nat := (l.filter (fun b => !b)).length
theorem cntF_set : ∀ (l : List Bool) (k : Nat), l[k]? = some false → cntF l = cntF (l.set k true) + 1
  | [], k, h => by simp at h
  | b :: l, 0, h => by simp at h; subst h; simp [cntF]
  | b :: l, k + 1, h => by
    simp at h
    have := cntF_set l k h
    cases b <;> simp [cntF] at this ⊢ <;> omega
theorem cntF_zero : ∀ (l : List Bool), cntF l = 0 → ∀ (k : Nat) b, l[k]? = some b → b = true
  | [], _, k, b, h => by simp at h
  | c :: l, h0, 0, b, h => by simp at h; subst h; cases c <;> simp [cntF] at h0 ⊢
  | c :: l, h0, k + 1, b, h => by
    simp at h
    cases c with
    | false => simp [cntF] at h0
    | true => exact cntF_zero l (by simpa [cntF] using h0) k b h

section thm
variable {P : Program} {N : Nat} {l : List Oper} {t : Env} {H : AHeap} {es : List Ev} {W : World} {φs : Phi} {ws : World} {dfr : List Deferred}

theorem RInv.done (F : Facts P N l t H es) {S : Nat → Prop} (hall : ∀ k, k < l.length → S k) {a : Act} {w : World} {φ : Phi} {c : Nat → AObj} {s : Nat} (I : RInv N l t H es W φs ws dfr S a w φ c s) :
    Sim W φ (hAt H es l.length) w ∧ EnvR φ N (eAt l es t l.length) a ∧ Step φs H ws φ (hAt H es l.length) w := by
  have hnw : ∀ u f, es[u]? = some f → f.kd = .write → u < s := fun u f hu hf => (I.wr u f hu hf).1 (hall u (by rw [← F.len]; exact (List.getElem?_eq_some_iff.1 hu).1))
  have hjl : ∀ i j, (hAt H es s).length ≤ i → i < (hAt H es (j + 1)).length → j < l.length := fun i j h1 h2 => by
    rcases Nat.lt_or_ge j l.length with h | h
    · exact h
    · have h4 : es[j]? = none := List.getElem?_eq_none (by rw [F.len]; exact h)
      rw [show hAt H es (j + 1) = H by simp [hAt, h4]] at h2
      have : H.length ≤ (hAt H es s).length := F.mono (Nat.zero_le s) I.sle
      omega
  have hdom : ∀ i L, φ i = some L → i < (hAt H es l.length).length := fun i L hi => by
    rcases I.dom i L hi with h | ⟨j, h1, h2, h3⟩
    · have : H.length ≤ (hAt H es l.length).length := F.mono (Nat.zero_le _) (Nat.le_refl _)
      omega
    · rcases Nat.lt_or_ge j l.length with h | h
      · exact Nat.lt_of_lt_of_le h3 (F.mono (by omega) (Nat.le_refl _))
      · have h4 : es[j]? = none := List.getElem?_eq_none (by rw [F.len]; exact h)
        rw [show hAt H es (j + 1) = H by simp [hAt, h4]] at h3
        have : H.length ≤ (hAt H es l.length).length := F.mono (Nat.zero_le _) (Nat.le_refl _)
        omega
  have hc : ∀ i L, φ i = some L → c i = hget (hAt H es l.length) i := fun i L hi => by
    rcases Nat.lt_or_ge i (hAt H es s).length with h | h
    · rw [I.c1 i L hi h]
      exact (F.chain I.sle (Nat.le_refl _) h fun u f hu hf h1 h2 => by have := hnw u f hu hf; omega).symm
    · rcases I.dom i L hi with h' | ⟨j, h1, h2, h3⟩
      · have : H.length ≤ (hAt H es s).length := F.mono (Nat.zero_le s) I.sle
        omega
      · rw [I.c2 i L j hi h h1 h2 h3]
        have hj := hjl i j h h3
        have hsj : s ≤ j := by
          rcases Nat.lt_or_ge j s with h' | h'
          · have := F.mono (show j + 1 ≤ s by omega) I.sle; omega
          · exact h'
        exact (F.chain (show j + 1 ≤ l.length by omega) (Nat.le_refl _) h3 fun u f hu hf h1 h2 => by have := hnw u f hu hf; omega).symm
  refine ⟨⟨hdom, fun i L hi => by rw [← hc i L hi]; exact I.obj F i L hi, fun i j L M hij ei ej hi hj => I.disj i j L M hij ei ej (by rw [hc i L ei]; exact hi) (by rw [hc j M ej]; exact hj),
    fun i j L M hij ei ej hi hj => I.mdisj i j L M hij ei ej (by rw [hc i L ei]; exact hi) (by rw [hc j M ej]; exact hj), I.base⟩, ⟨I.size, fun x v e => ?_⟩,
    ⟨I.agree, F.mono (Nat.zero_le _) (Nat.le_refl _), I.wsize, I.cells, I.frozen, fun b o hb ho => ?_⟩⟩
  · have hout : ∀ j', l.length ≤ j' → dAt l j' ≠ some x := fun j' hj => by simp [dAt, List.getElem?_eq_none hj]
    rcases eAt_get l.length e with ⟨j, h1, h2, h3, h4⟩ | ⟨h1, h2⟩
    · obtain ⟨v', k1, k2⟩ := I.made j x (hall j h1) h2 (fun j' a b => by
        rcases Nat.lt_or_ge j' l.length with h | h
        · exact h4 j' a h
        · exact hout j' h)
      exact ⟨v', k1, by rw [h3]; exact k2.mono cutφ_le⟩
    · obtain ⟨v', k1, k2⟩ := I.kept x v h1 (fun j' b => by
        rcases Nat.lt_or_ge j' l.length with h | h
        · exact h2 j' h
        · exact hout j' h)
      exact ⟨v', k1, k2.mono cutφ_le⟩
  · obtain ⟨i, L, e1, e2, e3⟩ := ho
    exact I.own b o hb ⟨i, L, e1, by rw [hc i L e1]; exact e2, e3⟩

theorem RInv.congr {S S' : Nat → Prop} (h : ∀ k, S k ↔ S' k) {a : Act} {w : World} {φ : Phi} {c : Nat → AObj} {s : Nat} (I : RInv N l t H es W φs ws dfr S a w φ c s) : RInv N l t H es W φs ws dfr S' a w φ c s := by
  have : S = S' := funext fun k => propext (h k)
  rw [← this]; exact I

/-- one operation more -/
theorem RInv.next (F : Facts P N l t H es) {S : Nat → Prop} {k : Nat} {o : Oper} (R : Ready l S k o) {a : Act} {w : World} {φ : Phi} {c : Nat → AObj} {s : Nat} (I : RInv N l t H es W φs ws dfr S a w φ c s) (Q : Exit → Act → World → Prop) (K : Act → World → Prop)
    (hK : ∀ a' w' φ' c' s', RInv N l t H es W φs ws dfr (fun j => S j ∨ j = k) a' w' φ' c' s' → K a' w') : wpOp P l.toArray Q k K a w := by
  obtain ⟨e, h1, h2, h3, h4, h5⟩ := F.at_ k o R.op
  have hk := (List.getElem?_eq_some_iff.1 R.op).1
  have hv : vAt es k = e.v := by simp [vAt, h1]
  unfold wpOp
  rw [show (l.toArray)[k]? = some o by simpa using R.op]
  dsimp only
  have henv := R.env F I
  unfold OpEv at h5
  cases hkd : e.kd with
  | pure =>
    rw [hkd] at h5
    obtain ⟨g1, g2, g3⟩ := h5
    rw [if_pos (R.wanted F I g1)]
    obtain ⟨v', r1, r2⟩ := g2 _ w a henv
    refine .inl (Does.wp (R := fun u w' => u = v' ∧ w' = w) (Does.of_value r1 ⟨rfl, rfl⟩) ?_)
    rintro _ _ ⟨rfl, rfl⟩
    exact hK _ _ _ _ _ (R.same F I h1 (by rw [hkd]; exact fun h => by cases h) (by rw [hAt_at h1, g3, h2]) h3 (by rw [hv]; exact r2))
  | skip =>
    rw [hkd] at h5
    obtain ⟨g1, g2, g3⟩ := h5
    rw [if_neg (by rw [R.wantedNot F I g1]; simp)]
    exact hK _ _ _ _ _ (R.same F I h1 (by rw [hkd]; exact fun h => by cases h) (by rw [hAt_at h1, g3, h2]) h3 (by rw [hv, g2]; exact V.flat undef_flat))
  | read cs =>
    rw [hkd] at h5
    obtain ⟨g1, g2, g3, g4⟩ := h5
    rw [if_pos (R.wanted F I g1)]
    have hnw : e.kd ≠ .write := by rw [hkd]; exact fun h => by cases h
    have hcell : ∀ cc ∈ cs, ∀ L, cutφ φ (hAt H es k).length cc.1 = some L → c cc.1 = hget e.H cc.1 := fun cc hcc L hL => by
      obtain ⟨q1, q2⟩ := cutφ_some hL
      rw [h2]
      refine R.readCell F I h1 h2 q2 q1 hnw fun u f hu hf hun hlt => ?_
      have := F.dyn k e h1 u f hu hf hun
      rw [hkd] at this
      exact this cc hcc hlt
    obtain ⟨v', r1, r2⟩ := g2 (fun i q => if ∃ cc ∈ cs, cc.1 = i ∧ cc.2.1 = q then Am.hcell e.H i q else none) (cutφ φ (hAt H es k).length) w a
      (fun cc hcc => (if_pos ⟨cc, hcc, rfl, rfl⟩).trans (g3 cc hcc).1)
      (fun i q u L hL hu => by
        have hu' : (if ∃ cc ∈ cs, cc.1 = i ∧ cc.2.1 = q then Am.hcell e.H i q else none) = some u := hu
        split at hu'
        · rename_i hex
          obtain ⟨cc, hcc, rfl, rfl⟩ := hex
          have hcc' := hcell cc hcc L hL
          obtain ⟨q1, q2⟩ := cutφ_some hL
          have hb := (g3 cc hcc).2
          rw [(g3 cc hcc).1] at hu'
          obtain rfl := Option.some.inj hu'
          have := I.obj F cc.1 L q2
          rw [hcc'] at this
          have hu2 := (g3 cc hcc).1
          unfold Am.hcell at hu2
          cases ho : hget e.H cc.1 with
          | dead => rw [ho] at hu2; cases hu2
          | row ro cells =>
            rw [ho] at hu2 this
            obtain ⟨u', k1, k2⟩ := this.reads _ _ hu2
            exact ⟨u', k1, by rw [← h2]; exact k2.beneath hb⟩
          | map es => rw [ho] at hu2; cases hu2
        · cases hu') henv.get
    refine .inl (Does.wp (R := fun u w' => u = v' ∧ w' = w) (Does.of_value r1 ⟨rfl, rfl⟩) ?_)
    rintro _ _ ⟨rfl, rfl⟩
    exact hK _ _ _ _ _ (R.same F I h1 hnw (by rw [hAt_at h1, g4, h2]) h3 (by rw [hv]; exact r2))
  | alloc cells =>
    rw [hkd] at h5
    obtain ⟨g1, g2, g3⟩ := h5
    rw [if_pos (R.wanted F I g1)]
    obtain ⟨v', cs, T, r1, r2, r3, r4⟩ := g2 _ w a henv
    obtain ⟨φ', c', hI⟩ := R.made' F I h1 h2 hkd g3 h3 (v' := v') (T := T) r2 r3 r4 (fun u f hu hf hun hku => by
      have := F.dyn k e h1 u f hu hf hun
      rw [hkd] at this
      exact this hku)
    refine .inl (Does.wp (R := fun u w' => u = v' ∧ w' = w.alloc (.cells cs T)) (Does.of_value r1 ⟨rfl, rfl⟩) ?_)
    rintro _ _ ⟨rfl, rfl⟩
    exact hK _ _ _ _ _ hI
  | write =>
    rw [hkd] at h5
    obtain ⟨g1, g2, g3⟩ := h5
    rw [if_pos (R.wanted F I g1)]
    obtain ⟨r1, r2⟩ := R.wrote F I h1 h2 hkd h3
    refine .inl (Does.wp (g2 W _ w a r1 henv) ?_)
    rintro v' w' ⟨φ₂, q1, q2, q3⟩
    obtain ⟨φ', c', s', hI⟩ := r2 φ₂ w' v' q1 q2 q3
    exact hK _ _ _ _ _ hI

theorem RInv.any (F : Facts P N l t H es) {Q : Exit → Env → AHeap → Prop} {φ₀ : Phi} {H₀ : AHeap} {w₀ : World} (hst : Step φ₀ H₀ w₀ φs H ws) (hQ : Q .normal (eAt l es t l.length) (hAt H es l.length)) :
    ∀ (fuel : Nat) (listed : Array Bool) (a : Act) (w : World) (φ : Phi) (c : Nat → AObj) (s : Nat), listed.size = l.length → cntF listed.toList = fuel →
      (∀ m o', listed.getD m false = true → l[m]? = some o' → ∀ e ∈ o'.after.toList, Region.binds .any e = true → listed.getD e.on false = true) →
      RInv N l t H es W φs ws dfr (fun k => listed.getD k false = true) a w φ c s → wpAny P .any l.toArray (Post W φ₀ H₀ w₀ N dfr Q) fuel listed a w := by
  intro fuel
  have hend : ∀ (listed : Array Bool) (a : Act) (w : World) (φ : Phi) (c : Nat → AObj) (s : Nat), listed.size = l.length → (∀ k, k < l.length → listed.getD k false = true) →
      RInv N l t H es W φs ws dfr (fun k => listed.getD k false = true) a w φ c s → Post W φ₀ H₀ w₀ N dfr Q .normal a w := fun listed a w φ c s hsz hall I => by
    obtain ⟨h1, h2, h3⟩ := I.done F hall
    exact ⟨I.defers, φ, _, _, h1, h2, hst.trans h3, hQ⟩
  have hallof : ∀ (listed : Array Bool), listed.size = l.length →
      (∀ m o', listed.getD m false = true → l[m]? = some o' → ∀ e ∈ o'.after.toList, Region.binds .any e = true → listed.getD e.on false = true) → Region.ready .any l.toArray listed = [] → ∀ k, k < l.length → listed.getD k false = true := by
    intro listed hsz hcl hr k
    induction k using Nat.strongRecOn with
    | _ k ih =>
      intro hk
      cases hb : listed.getD k false with
      | true => rfl
      | false =>
        exfalso
        have e1 := List.getElem?_eq_getElem hk
        have hkt : listed.getD k true = false := by
          have hks : k < listed.size := by omega
          simp [Array.getD, hks] at hb ⊢; exact hb
        have : k ∈ Region.ready .any l.toArray listed := mem_ready.2 ⟨hkt, l[k], by simp [hk], fun e he hbd => ih e.on (F.back k _ e1 e (by simpa using he) hbd) (by have := F.back k _ e1 e (by simpa using he) hbd; omega)⟩
        rw [hr] at this; cases this
  induction fuel with
  | zero =>
    intro listed a w φ c s hsz hcnt hcl I
    have hall : ∀ k, k < l.length → listed.getD k false = true := fun k hk => by
      have hk' : k < listed.size := by omega
      have := cntF_zero _ hcnt k listed[k] (by simp [hk'])
      simp [Array.getD, hk', this]
    refine ⟨?_, hend listed a w φ c s hsz hall I⟩
    cases hr : Region.ready .any l.toArray listed with
    | nil => rfl
    | cons i r =>
      exfalso
      have hmem : i ∈ Region.ready .any l.toArray listed := by rw [hr]; simp
      obtain ⟨h1, o, h2, _⟩ := mem_ready.1 hmem
      have hi : i < l.length := by have h2' : l[i]? = some o := by simpa using h2
                                   exact (List.getElem?_eq_some_iff.1 h2').1
      have := hall i hi
      have hi' : i < listed.size := by omega
      simp [Array.getD, hi'] at h1 this
      rw [h1] at this; cases this
  | succ fuel ih =>
    intro listed a w φ c s hsz hcnt hcl I
    refine ⟨fun hr => hend listed a w φ c s hsz (hallof listed hsz hcl hr) I, fun i hi => ?_⟩
    obtain ⟨h1, o, h2, h3⟩ := mem_ready.1 hi
    have h2' : l[i]? = some o := by simpa using h2
    have hil : i < l.length := (List.getElem?_eq_some_iff.1 h2').1
    have hi' : i < listed.size := by omega
    have h1f : listed.getD i false = false := by simp [Array.getD, hi'] at h1 ⊢; exact h1
    have R : Ready l (fun k => listed.getD k false = true) i o := ⟨h2', by rw [h1f]; simp, fun e he hb => h3 e (by simpa using he) hb, hcl⟩
    have hset : ∀ k, (listed.setIfInBounds i true).getD k false = true ↔ (listed.getD k false = true ∨ k = i) := fun k => by
      by_cases hk : k = i
      · subst hk; simp [Array.getD, hi']
      · simp only [Array.getD, Array.size_setIfInBounds]
        by_cases hks : k < listed.size
        · simp [hks, hk, Array.getElem_setIfInBounds, Ne.symm hk]
        · simp [hks, hk]
    refine I.next F R _ _ fun a' w' φ' c' s' I' => ?_
    refine ih (listed.setIfInBounds i true) a' w' φ' c' s' (by simpa using hsz) ?_ ?_ (I'.congr fun k => (hset k).symm)
    · have hg : listed.toList[i]? = some false := by
        have : listed[i] = false := by simp [Array.getD, hi'] at h1f; exact h1f
        simp [hi', this]
      have := cntF_set _ i hg
      simp only [Array.toList_setIfInBounds]
      omega
    · intro m o' hm ho' e he hb
      rw [hset] at hm ⊢
      rcases hm with hm | rfl
      · exact .inl (hcl m o' hm ho' e he hb)
      · rw [h2'] at ho'; obtain rfl := Option.some.inj ho'
        exact .inl (h3 e (by simpa using he) hb)

end thm

/-- **A statement whose order of operations is open**: the written order serves. -/
theorem AWp.drawn {P : Program} {N : Nat} {id : Nat} {l : List Oper} {t : Env} {H : AHeap} {Q : Exit → Env → AHeap → Prop} (es : List Ev) (hm : P.follows .mixedOrders = true) (htr : Trace P N l.toArray l t H es)
    (hst : staticOk l l.toArray (es.map (·.kd.isWrite)) = true) (hdyn : dynOk l es) (hQ : Q .normal (eAt l es t l.length) (hAt H es l.length)) : AWp P N (.region id l.toArray true) t H Q := by
  intro W φ₀ H₀ w₀ dfr φ w a hs he hstp hdf
  have F := Facts.mk' htr hst hdyn
  refine wp_region_any hm ?_
  have hs' := hs.drew
  have hstp' := hstp.trans (Step.drew φ H w)
  have hcut : ∀ v v', V φ v v' → V (cutφ φ H.length) v v' := fun v v' h => h.mono fun i L e => by unfold cutφ; rw [if_pos (hs.dom i L e)]; exact e
  have hrep : ∀ k, (Array.replicate l.toArray.size false).getD k false = false := fun k => by simp [Array.getD]
  refine RInv.any (φs := φ) (ws := w.drew) (W := W) (dfr := dfr) F hstp' hQ l.toArray.size (Array.replicate l.toArray.size false) a w.drew φ (hget H) 0 (by simp) ?_ ?_ ?_
  · simp [cntF]
  · intro m o' h; rw [hrep] at h; cases h
  · have hno : ∀ k, (Array.replicate l.toArray.size false).getD k false = true → False := fun k h => by rw [hrep] at h; cases h
    refine { defers := hdf, size := he.size, wr := fun u e hu hk => ⟨fun h => (hno u h).elim, fun h => by omega⟩, sle := Nat.zero_le _,
             made := fun j x h => (hno j h).elim, kept := fun x v e _ => ?_, dom := fun i L e => .inl (hs.dom i L e), c1 := fun i L e h => rfl,
             c2 := fun i L j e h hj => (hno j hj).elim, obj1 := fun i L e h => ?_, obj2 := fun i L j e h hj => (hno j hj).elim,
             disj := hs'.disj, mdisj := hs'.mdisj, base := hs'.base, agree := fun _ _ => rfl, wsize := Nat.le_refl _, cells := fun _ _ _ _ => rfl, frozen := fun _ _ _ _ => rfl, own := fun b o hb h => h }
    · obtain ⟨v', h1, h2⟩ := he.get x v e
      exact ⟨v', h1, hcut _ _ h2⟩
    · exact (hs'.obj i L e).mono fun i L e => by unfold cutφ; rw [if_pos (show i < (hAt H es 0).length from hs.dom i L e)]; exact e

end Go.Proofs.YtfiilgnebmidbaaDoor.Am
/-
  An abstract machine over this model's programs: the rules for a statement whose order is open, in the shape in which a program prints them. No condition.
-/
namespace Go.Proofs.YtfiilgnebmidbaaDoor.Am
open Go Go.RowKit
set_option linter.unusedVariables false
set_option linter.unusedSimpArgs false

section a
variable {P : Program} {N : Nat} {t : Env} {d : Option Tmp} {ty : TypeId} {pos : String} {af : Array Edge} {g : Option (Nat × Bool)}

theorem r_load {T : TypeId} {x : Operand} {i o : Nat} {v : Value} (hx : aEv t x = some (.pointer (some ⟨i, o, none⟩))) (hT : ∀ w, (isAgg T).run P w = .ok false w) :
    ROk P N ⟨d, .load T x, ty, pos, af, g⟩ t [(i, o, v)] v := by
  intro h φ w a hc hr he
  have hev : V φ (.pointer (some ⟨i, o, none⟩)) (a.eval x) := by
    cases x with
    | tmp k =>
      obtain ⟨v', h1, h2⟩ := he k _ hx
      have : a.eval (.tmp k) = v' := by simp [Act.eval, h1]
      rw [this]; exact h2
    | const u =>
      simp only [aEv] at hx
      split at hx
      · rename_i hf
        obtain rfl := Option.some.inj hx
        cases hf
      · cases hx
    | global g => cases hx
    | func f => cases hx
  obtain ⟨L, hL, e⟩ := hev.inv_ptr
  obtain ⟨v', h1, h2⟩ := hr i o v L hL (hc (i, o, v) (by simp))
  exact ⟨v', by simp [execOp, e, Instr.loadAt, Instr.sureAddr, loadVar, hT, h1], h2⟩

def cellsFrom (i : Nat) : Nat → List Value → List (Nat × Nat × Value)
  | _, [] => []
  | o, v :: vs => (i, o, v) :: cellsFrom i (o + 1) vs
theorem mem_cellsFrom {i : Nat} : ∀ (vs : List Value) (o j : Nat) (v : Value), vs[j]? = some v → (i, o + j, v) ∈ cellsFrom i o vs
  | [], o, j, v, h => by simp at h
  | u :: vs, o, 0, v, h => by simp at h; subst h; simp [cellsFrom]
  | u :: vs, o, j + 1, v, h => by
    simp at h
    have := mem_cellsFrom (i := i) vs (o + 1) j v h
    simp only [cellsFrom, List.mem_cons]
    rw [show o + (j + 1) = o + 1 + j by omega]
    exact .inr this
theorem of_mem_cellsFrom {i : Nat} : ∀ (vs : List Value) (o : Nat) (c : Nat × Nat × Value), c ∈ cellsFrom i o vs → ∃ j, vs[j]? = some c.2.2 ∧ c.1 = i ∧ c.2.1 = o + j
  | [], o, c, h => by cases h
  | u :: vs, o, c, h => by
    simp only [cellsFrom, List.mem_cons] at h
    rcases h with rfl | h
    · exact ⟨0, rfl, rfl, rfl⟩
    · obtain ⟨j, h1, h2, h3⟩ := of_mem_cellsFrom vs (o + 1) c h
      exact ⟨j + 1, by simpa using h1, h2, by omega⟩

theorem r_loadN {T : TypeId} {x : Operand} {i o n : Nat} {vs : List Value} (hx : aEv t x = some (.pointer (some ⟨i, o, none⟩))) (hT : ∀ w, (isAgg T).run P w = .ok true w) (hn : ∀ w, (sizeOf T).run P w = .ok n w) (hlen : vs.length = n) :
    ROk P N ⟨d, .load T x, ty, pos, af, g⟩ t (cellsFrom i o vs) (.agg vs.toArray) := by
  intro h φ w a hc hr he
  have hev : V φ (.pointer (some ⟨i, o, none⟩)) (a.eval x) := by
    cases x with
    | tmp k =>
      obtain ⟨v', h1, h2⟩ := he k _ hx
      have : a.eval (.tmp k) = v' := by simp [Act.eval, h1]
      rw [this]; exact h2
    | const u =>
      simp only [aEv] at hx
      split at hx
      · rename_i hf
        obtain rfl := Option.some.inj hx
        cases hf
      · cases hx
    | global g => cases hx
    | func f => cases hx
  obtain ⟨L, hL, e⟩ := hev.inv_ptr
  have h1 : ∀ (j : Nat), j < vs.length → ∃ v', w.cell? ⟨L.block, L.off + o + j, none⟩ = some v' ∧ ∀ v, vs[j]? = some v → V φ v v' := fun j hj => by
    have e := List.getElem?_eq_getElem hj
    obtain ⟨v', h2, h3⟩ := hr i (o + j) _ L hL (hc _ (mem_cellsFrom vs o j _ e))
    exact ⟨v', by rw [Nat.add_assoc]; exact h2, fun v hv => by rw [e] at hv; obtain rfl := Option.some.inj hv; exact h3⟩
  let f : Nat → Value := fun j => (w.cell? ⟨L.block, L.off + o + j, none⟩).getD undef
  have hcells : ∀ (j : Nat) v', ((List.range vs.length).map f)[j]? = some v' → w.cell? ⟨L.block, L.off + o + j, none⟩ = some v' := by
    intro j v' e
    have hj : j < vs.length := by have := (List.getElem?_eq_some_iff.1 e).1; simpa using this
    obtain ⟨u, h2, _⟩ := h1 j hj
    simp [List.getElem?_map, List.getElem?_range hj, f, h2] at e
    rw [h2, e]
  have hrun := run_cells (P := P) hcells
  have hl : ((List.range vs.length).map f).length = n := by simp [hlen]
  rw [hl] at hrun
  refine ⟨.agg ((List.range vs.length).map f).toArray, by simp [execOp, e, Instr.loadAt, Instr.sureAddr, loadVar, hT, hn, hrun], .agg _ _ (by simp) fun j v v' e1 e2 => ?_⟩
  have e1' : vs[j]? = some v := by simpa using e1
  have hj := (List.getElem?_eq_some_iff.1 e1').1
  obtain ⟨u, h2, h3⟩ := h1 j hj
  have e2' : ((List.range vs.length).map f)[j]? = some v' := by simpa using e2
  have := hcells j v' e2'
  rw [h2] at this
  obtain rfl := Option.some.inj this
  exact h3 v e1'

theorem a_box {E : TypeId} {x : Operand} {v : Value} {i : Nat} (hx : aEv t x = some v) : AOk P N ⟨d, .box E x, ty, pos, af, g⟩ t v.cells.toList i (.pointer (some ⟨i, 0, none⟩)) := by
  intro φ w a he
  obtain ⟨h1, h2⟩ := cells_of_V (ev_ok he hx)
  exact ⟨.pointer (some ⟨w.heap.size, 0, none⟩), (a.eval x).cells, E, by simp [execOp, Instr.box, newVar, newRow], by simp; omega, fun j c c' e e' => h2 j c c' (by simpa using e) e', fun φ' h _ => .ptr i 0 ⟨w.heap.size, 0, _⟩ h⟩

theorem a_alloc {E : TypeId} {z : Value} {i : Nat} (hz : ∀ w, (zeroValue E).run P w = .ok z w) (hf : ∀ c ∈ z.cells.toList, flat0 c = true) : AOk P N ⟨d, .alloc E, ty, pos, af, g⟩ t z.cells.toList i (.pointer (some ⟨i, 0, none⟩)) := by
  intro φ w a he
  exact ⟨.pointer (some ⟨w.heap.size, 0, none⟩), z.cells, E, by simp [execOp, Instr.alloc, newVar, newRow, hz], by simp, fun j c c' e e' => by
    have e2 : z.cells[j]? = some c := by simpa using e
    rw [e2] at e'; obtain rfl := Option.some.inj e'
    exact flatV (hf c (by simpa using Array.mem_of_getElem? e2)), fun φ' h _ => .ptr i 0 ⟨w.heap.size, 0, _⟩ h⟩

theorem a_makeSlice {T E : TypeId} {x y : Operand} {k j : IntKind} {n c m by_ i : Nat} {z : Value} {ti : TypeInfo} (hx : aEv t x = some (.int k n)) (hy : aEv t y = some (.int j c)) (hT : P.underlying T = some (.slice E))
    (hi : ∀ w, (typeInfo E).run P w = .ok ti w) (hm : ∀ w, (sizeOf E).run P w = .ok m w) (hz : ∀ w, (zeroValue E).run P w = .ok z w) (hf : ∀ c ∈ z.cells.toList, flat0 c = true) (hzm : z.cells.size = m)
    (hb : ti.bytes = by_) (hnc : n ≤ c) (hsz : c * by_ ≤ 281474976710656) (hc : c < 9223372036854775808) (hm0 : 0 < m) :
    AOk P N ⟨d, .makeSlice T x y, ty, pos, af, g⟩ t ((List.replicate c z.cells.toList).flatten) i (.slice (some ⟨i, 0, none⟩) n c) := by
  intro φ w a he
  have hflat : ((Array.range (c * m)).map (fun i => z.cells[i % z.cells.size]!)).toList = ((List.replicate c z.cells.toList).flatten) := by
    have := replicate_cells (z := z.cells.toList) (m := m) (len := c) (by simpa using hzm) hm0
    rw [← this]
  have hq : ∀ x ∈ ((List.replicate c z.cells.toList).flatten), flat0 x = true := by
    intro x hx
    obtain ⟨l, hl, hxl⟩ := List.mem_flatten.1 hx
    rw [List.mem_replicate] at hl
    rw [hl.2] at hxl
    exact hf x hxl
  have w1 : IntKind.i64.wrap (n : Int) = n := by simp [IntKind.wrap, IntKind.bits, IntKind.signed]; omega
  have w2 : IntKind.i64.wrap (c : Int) = c := by simp [IntKind.wrap, IntKind.bits, IntKind.signed]; omega
  refine ⟨.slice (some ⟨w.heap.size, 0, none⟩) n c, (Array.range (c * m)).map (fun i => z.cells[i % z.cells.size]!), E, ?_, ?_, ?_, ?_⟩
  · have h1 : ¬ ((ti.bytes : Int) * (c : Int) > 281474976710656) := by rw [hb]; have := Int.ofNat_le.2 hsz; rw [Int.natCast_mul] at this; rw [Int.mul_comm]; omega
    have h2 : ¬ ((n : Int) > (c : Int)) := by omega
    have h3 : ¬ ((n : Int) < 0) := by omega
    have h4 : ¬ ((c : Int) < 0) := by omega
    by_cases h0 : c * m = 0
    · obtain rfl : c = 0 := by rcases Nat.mul_eq_zero.1 h0 with h | h <;> omega
      obtain rfl : n = 0 := by omega
      have w0 : IntKind.i64.wrap 0 = 0 := rfl
      simp [execOp, ev_int he hx, ev_int he hy, Instr.makeSlice, run_underlying hT, asInt, asIntOf, hi, w0, hm, newRow]
      rw [Array.eq_empty_of_size_eq_zero (show (Array.range 0).size = 0 by simp)]
      simp
    · simp [execOp, ev_int he hx, ev_int he hy, Instr.makeSlice, run_underlying hT, asInt, asIntOf, hi, w1, w2, h1, h2, h3, h4, hm, h0, hz, newRow]
  · rw [← hflat]; simp
  · intro j u u' e e'
    have hu := hq u (List.mem_of_getElem? e)
    rw [← hflat] at e
    have e2 := (Array.getElem?_toList).symm.trans e
    rw [e2] at e'; obtain rfl := Option.some.inj e'
    exact flatV hu
  · intro φ' h _
    refine .slice i 0 n c ⟨w.heap.size, 0, _⟩ c h (fun _ => rfl) (fun m' h => ?_) hnc
    unfold capU at h; omega

theorem a_buildSlice {T E : TypeId} {len m i : Nat} {ps : List (Nat × Operand)} {vs : List (Nat × Value)} {z : Value} {cs : List Value} (hp : ps.map (fun p => (p.1, aEv t p.2)) = vs.map (fun p => (p.1, some p.2)))
    (hT : P.underlying T = some (.slice E)) (hm : ∀ w, (sizeOf E).run P w = .ok m w) (hz : ∀ w, (zeroValue E).run P w = .ok z w) (hf : ∀ c ∈ z.cells.toList, flat0 c = true) (hzm : z.cells.size = m) (hm0 : 0 < m)
    (hlen : len * m ≤ 16777216) (hcs : partsOf m vs ((List.replicate len z.cells.toList).flatten) = some cs) (hl : cs.length = len * m) :
    AOk P N ⟨d, .buildSlice T len ps.toArray, ty, pos, af, g⟩ t cs i (.slice (some ⟨i, 0, none⟩) len len) := by
  intro φ w a he
  obtain ⟨q1, q2⟩ := parts_rel hp he
  have hq : ∀ x ∈ ((List.replicate len z.cells.toList).flatten), flat0 x = true := by
    intro x hx
    obtain ⟨l, hl, hxl⟩ := List.mem_flatten.1 hx
    rw [List.mem_replicate] at hl
    rw [hl.2] at hxl
    exact hf x hxl
  obtain ⟨cs', f1, f2, f3⟩ := fill_ok (φ := φ) (m := m) vs (ps.map (fun p => (p.1, a.eval p.2))) ((List.replicate len z.cells.toList).flatten) ((List.replicate len z.cells.toList).flatten) cs q1 q2 rfl (flat_self hq) hcs
  refine ⟨.slice (some ⟨w.heap.size, 0, none⟩) len len, cs'.toArray, E, ?_, by simp; omega, fun j c c' e e' => f3 j c c' e (by simpa using e'), fun φ' h _ => ?_⟩
  · have hbig : ¬ (len * m > 2 ^ 24) := by simpa using hlen
    have f1' : Instr.fill (fun i => some (i * m, m)) ((List.replicate len z.cells.toList).flatten).toArray (List.map (fun p => (p.1, a.eval p.2)) ps) = some cs'.toArray := f1
    have step : (Instr.buildSlice T len ((ps.map (fun p => (p.1, a.eval p.2))).toArray)).run P w = .ok (.slice (some ⟨w.heap.size, 0, none⟩) len len) (w.alloc (.cells cs'.toArray E)) := by
      unfold Instr.buildSlice
      by_cases h0 : len * m = 0
      · have hl0 : len = 0 := by rcases Nat.mul_eq_zero.1 h0 with h | h <;> omega
        have hr0 : ∀ zz : Array Value, (Array.range (len * m)).map (fun i => zz[i % zz.size]!) = ((List.replicate len z.cells.toList).flatten).toArray := fun zz => by
          subst hl0; simp
        simp only [Sem.run_bind, run_underlying hT, Result.andThen_ok, hm, if_neg hbig, if_pos h0, Sem.run_pure, hr0]
        rw [f1']
        simp [newRow]
      · have hr1 : (Array.range (len * m)).map (fun i => z.cells[i % z.cells.size]!) = ((List.replicate len z.cells.toList).flatten).toArray := by
          have := replicate_cells (z := z.cells.toList) (m := m) (len := len) (by simpa using hzm) hm0
          rw [← this]
        simp only [Sem.run_bind, run_underlying hT, Result.andThen_ok, hm, if_neg hbig, if_neg h0, Sem.run_pure, hz, hr1]
        rw [f1']
        simp [newRow]
    simp only [execOp, Sem.run_bind]
    rw [show (Array.map (fun (x : Nat × Operand) => match x with | (i, x) => (i, a.eval x)) ps.toArray) = (ps.map (fun p => (p.1, a.eval p.2))).toArray from by simp, step]
    rfl
  · refine .slice i 0 len len ⟨w.heap.size, 0, _⟩ len h (fun _ => rfl) (fun m' h => ?_) (Nat.le_refl _)
    have : len ≤ len * m := Nat.le_mul_of_pos_right _ hm0
    unfold capU at h; omega
end a

/-! ### the written order, an operation at a time -/
structure DEnd (P : Program) (N : Nat) (l₀ : List Oper) (Q : Exit → Env → AHeap → Prop) (t : Env) (H : AHeap) (es : List Ev) : Prop where
  st : staticOk l₀ l₀.toArray (es.map (·.kd.isWrite)) = true
  dyn : dynOk l₀ es
  q : Q .normal t H
/-- where the written order has got to -/
def DInv (l₀ : List Oper) (t₀ : Env) (H₀ : AHeap) (l : List Oper) (t : Env) (H : AHeap) (acc : List Ev) : Prop :=
  acc.length + l.length = l₀.length ∧ l₀.drop acc.length = l ∧ t = eAt l₀ acc t₀ acc.length ∧ H = hAt H₀ acc acc.length
def DTr (P : Program) (N : Nat) (l₀ : List Oper) (t₀ : Env) (H₀ : AHeap) (Q : Exit → Env → AHeap → Prop) (l : List Oper) (t : Env) (H : AHeap) (acc : List Ev) : Prop :=
  DInv l₀ t₀ H₀ l t H acc → ∃ es, Trace P N l₀.toArray l t H es ∧ staticOk l₀ l₀.toArray ((acc ++ es).map (·.kd.isWrite)) = true ∧ dynOk l₀ (acc ++ es) ∧ Q .normal (eAt l₀ (acc ++ es) t₀ l₀.length) (hAt H₀ (acc ++ es) l₀.length)
theorem vAt_app {acc es : List Ev} {k : Nat} (h : k < acc.length) : vAt (acc ++ es) k = vAt acc k := by
  unfold vAt; rw [List.getElem?_append_left h]
theorem eAt_app {l₀ : List Oper} {t₀ : Env} {acc es : List Ev} : ∀ {k : Nat}, k ≤ acc.length → eAt l₀ (acc ++ es) t₀ k = eAt l₀ acc t₀ k
  | 0, _ => rfl
  | k + 1, h => by
    show eput (eAt l₀ (acc ++ es) t₀ k) (dAt l₀ k) (vAt (acc ++ es) k) = eput (eAt l₀ acc t₀ k) (dAt l₀ k) (vAt acc k)
    rw [eAt_app (by omega), vAt_app (by omega)]
theorem DInv.next {l₀ : List Oper} {t₀ : Env} {H₀ : AHeap} {o : Oper} {l : List Oper} {t : Env} {H : AHeap} {acc : List Ev} (e : Ev) (h : DInv l₀ t₀ H₀ (o :: l) t H acc) : DInv l₀ t₀ H₀ l (eput t o.dst e.v) e.H' (acc ++ [e]) := by
  obtain ⟨h1, h2, h3, h4⟩ := h
  have hn : acc.length < l₀.length := by rw [← h1, List.length_cons]; omega
  have hget : l₀[acc.length]? = some o := by
    have h5 : (l₀.drop acc.length)[0]? = some o := by rw [h2]; rfl
    rw [List.getElem?_drop] at h5; simpa using h5
  refine ⟨by rw [List.length_append, List.length_singleton, ← h1, List.length_cons]; omega, ?_, ?_, ?_⟩
  · rw [List.length_append, List.length_singleton, ← List.drop_drop, h2]; rfl
  · rw [List.length_append, List.length_singleton]
    show _ = eput (eAt l₀ (acc ++ [e]) t₀ acc.length) (dAt l₀ acc.length) (vAt (acc ++ [e]) acc.length)
    rw [eAt_app (Nat.le_refl _), ← h3]
    have e1 : dAt l₀ acc.length = o.dst := by unfold dAt; rw [hget]; rfl
    have e2 : vAt (acc ++ [e]) acc.length = e.v := by unfold vAt; rw [List.getElem?_append_right (Nat.le_refl _), Nat.sub_self]; rfl
    rw [e1, e2]
  · rw [List.length_append, List.length_singleton]
    show _ = match (acc ++ [e])[acc.length]? with | some e => e.H' | none => H₀
    rw [List.getElem?_append_right (Nat.le_refl _), Nat.sub_self]; rfl

section d
variable {P : Program} {N : Nat} {l₀ : List Oper} {t₀ : Env} {H₀ : AHeap} {Q : Exit → Env → AHeap → Prop} {l : List Oper} {t : Env} {H : AHeap} {acc : List Ev}

theorem DTr.start {id : Nat} (hm : P.follows .mixedOrders = true) (h : DTr P N l t H Q l t H []) : AWp P N (.region id l.toArray true) t H Q := by
  obtain ⟨es, h1, h2, h3, h4⟩ := h ⟨by simp, rfl, rfl, rfl⟩
  exact AWp.drawn es hm h1 h2 h3 h4
theorem DTr.nil (h : DEnd P N l₀ Q t H acc) : DTr P N l₀ t₀ H₀ Q [] t H acc := by
  intro ⟨h1, _, h3, h4⟩
  have hl : l₀.length = acc.length := by rw [← h1]; rfl
  exact ⟨[], rfl, by rw [List.append_nil]; exact h.st, by rw [List.append_nil]; exact h.dyn, by rw [List.append_nil, hl, ← h3, ← h4]; exact h.q⟩
theorem DTr.cons {o : Oper} (e : Ev) (heH : e.H = H) (hd : ∀ k, o.dst = some k → k < N) (hsel : ∀ cs b, o.op ≠ .select cs b) (hop : OpEv P N l₀.toArray o (restr (o.looksAt l₀.toArray) t) e)
    (h : DTr P N l₀ t₀ H₀ Q l (eput t o.dst e.v) e.H' (acc ++ [e])) : DTr P N l₀ t₀ H₀ Q (o :: l) t H acc := by
  intro hi
  obtain ⟨es, h1, h2⟩ := h (hi.next e)
  exact ⟨e :: es, ⟨e, es, rfl, heH, hd, hsel, hop, h1⟩, by rw [List.append_assoc] at h2; exact h2⟩

/-- the operation is no select -/
def noSel : Op → Bool
  | .select _ _ => false
  | _ => true
theorem noSel_ok {op : Op} (h : noSel op = true) : ∀ cs b, op ≠ .select cs b := fun cs b e => by subst e; cases h

variable {d : Nat} {op : Op} {ty : TypeId} {pos : String} {af : Array Edge} {g : Option (Nat × Bool)} {v : Value}

theorem DTr.p (hd : Nat.blt d N = true) (hs : noSel op = true) (h : PureOk P N ⟨some d, op, ty, pos, af, none⟩ (restr (Oper.looksAt l₀.toArray ⟨some d, op, ty, pos, af, none⟩) t) v)
    (k : DTr P N l₀ t₀ H₀ Q l ((d, v) :: t) H (acc ++ [⟨.pure, v, H, H⟩])) : DTr P N l₀ t₀ H₀ Q (⟨some d, op, ty, pos, af, none⟩ :: l) t H acc :=
  DTr.cons ⟨.pure, v, H, H⟩ rfl (lt_of hd) (noSel_ok hs) ⟨trivial, h, rfl⟩ k
/-- the same, where it yields a bool that is looked at -/
theorem DTr.pb {b : Bool} (hd : Nat.blt d N = true) (hs : noSel op = true) (h : PureOk P N ⟨some d, op, ty, pos, af, none⟩ (restr (Oper.looksAt l₀.toArray ⟨some d, op, ty, pos, af, none⟩) t) (.bool b))
    (kT : b = true → DTr P N l₀ t₀ H₀ Q l ((d, .bool true) :: t) H (acc ++ [⟨.pure, .bool true, H, H⟩])) (kF : b = false → DTr P N l₀ t₀ H₀ Q l ((d, .bool false) :: t) H (acc ++ [⟨.pure, .bool false, H, H⟩])) :
    DTr P N l₀ t₀ H₀ Q (⟨some d, op, ty, pos, af, none⟩ :: l) t H acc := by
  cases b with
  | true => exact DTr.p hd hs h (kT rfl)
  | false => exact DTr.p hd hs h (kF rfl)
theorem DTr.gp {j e : Nat} {want : Bool} (hj : (l₀.toArray[j]?).bind (·.dst) = some e) (hb : eget (restr (Oper.looksAt l₀.toArray ⟨some d, op, ty, pos, af, some (j, want)⟩) t) e = some (.bool want)) (hd : Nat.blt d N = true) (hs : noSel op = true)
    (h : PureOk P N ⟨some d, op, ty, pos, af, some (j, want)⟩ (restr (Oper.looksAt l₀.toArray ⟨some d, op, ty, pos, af, some (j, want)⟩) t) v)
    (k : DTr P N l₀ t₀ H₀ Q l ((d, v) :: t) H (acc ++ [⟨.pure, v, H, H⟩])) : DTr P N l₀ t₀ H₀ Q (⟨some d, op, ty, pos, af, some (j, want)⟩ :: l) t H acc :=
  DTr.cons ⟨.pure, v, H, H⟩ rfl (lt_of hd) (noSel_ok hs) ⟨⟨e, hj, hb⟩, h, rfl⟩ k
theorem DTr.gpb {j e : Nat} {want b : Bool} (hj : (l₀.toArray[j]?).bind (·.dst) = some e) (hb : eget (restr (Oper.looksAt l₀.toArray ⟨some d, op, ty, pos, af, some (j, want)⟩) t) e = some (.bool want)) (hd : Nat.blt d N = true) (hs : noSel op = true)
    (h : PureOk P N ⟨some d, op, ty, pos, af, some (j, want)⟩ (restr (Oper.looksAt l₀.toArray ⟨some d, op, ty, pos, af, some (j, want)⟩) t) (.bool b))
    (kT : b = true → DTr P N l₀ t₀ H₀ Q l ((d, .bool true) :: t) H (acc ++ [⟨.pure, .bool true, H, H⟩])) (kF : b = false → DTr P N l₀ t₀ H₀ Q l ((d, .bool false) :: t) H (acc ++ [⟨.pure, .bool false, H, H⟩])) :
    DTr P N l₀ t₀ H₀ Q (⟨some d, op, ty, pos, af, some (j, want)⟩ :: l) t H acc := by
  cases b with
  | true => exact DTr.gp hj hb hd hs h (kT rfl)
  | false => exact DTr.gp hj hb hd hs h (kF rfl)
theorem DTr.gn {j e : Nat} {want : Bool} (hj : (l₀.toArray[j]?).bind (·.dst) = some e) (hb : eget (restr (Oper.looksAt l₀.toArray ⟨some d, op, ty, pos, af, some (j, want)⟩) t) e = some (.bool (!want))) (hd : Nat.blt d N = true) (hs : noSel op = true)
    (k : DTr P N l₀ t₀ H₀ Q l ((d, undef) :: t) H (acc ++ [⟨.skip, undef, H, H⟩])) : DTr P N l₀ t₀ H₀ Q (⟨some d, op, ty, pos, af, some (j, want)⟩ :: l) t H acc :=
  DTr.cons ⟨.skip, undef, H, H⟩ rfl (lt_of hd) (noSel_ok hs) ⟨⟨e, hj, .inl hb⟩, rfl, rfl⟩ k
theorem DTr.gu {j e : Nat} {want : Bool} (hj : (l₀.toArray[j]?).bind (·.dst) = some e) (hb : eget (restr (Oper.looksAt l₀.toArray ⟨some d, op, ty, pos, af, some (j, want)⟩) t) e = some undef) (hd : Nat.blt d N = true) (hs : noSel op = true)
    (k : DTr P N l₀ t₀ H₀ Q l ((d, undef) :: t) H (acc ++ [⟨.skip, undef, H, H⟩])) : DTr P N l₀ t₀ H₀ Q (⟨some d, op, ty, pos, af, some (j, want)⟩ :: l) t H acc :=
  DTr.cons ⟨.skip, undef, H, H⟩ rfl (lt_of hd) (noSel_ok hs) ⟨⟨e, hj, .inr hb⟩, rfl, rfl⟩ k
theorem DTr.r {cs : List (Nat × Nat × Value)} (hd : Nat.blt d N = true) (hs : noSel op = true) (h : ROk P N ⟨some d, op, ty, pos, af, none⟩ (restr (Oper.looksAt l₀.toArray ⟨some d, op, ty, pos, af, none⟩) t) cs v)
    (hc : ∀ c ∈ cs, hcell H c.1 c.2.1 = some c.2.2 ∧ Bel H.length c.2.2)
    (k : DTr P N l₀ t₀ H₀ Q l ((d, v) :: t) H (acc ++ [⟨.read cs, v, H, H⟩])) : DTr P N l₀ t₀ H₀ Q (⟨some d, op, ty, pos, af, none⟩ :: l) t H acc :=
  DTr.cons ⟨.read cs, v, H, H⟩ rfl (lt_of hd) (noSel_ok hs) ⟨trivial, h, hc, rfl⟩ k
theorem DTr.gr {j e : Nat} {want : Bool} {cs : List (Nat × Nat × Value)} (hj : (l₀.toArray[j]?).bind (·.dst) = some e) (hb : eget (restr (Oper.looksAt l₀.toArray ⟨some d, op, ty, pos, af, some (j, want)⟩) t) e = some (.bool want)) (hd : Nat.blt d N = true) (hs : noSel op = true)
    (h : ROk P N ⟨some d, op, ty, pos, af, some (j, want)⟩ (restr (Oper.looksAt l₀.toArray ⟨some d, op, ty, pos, af, some (j, want)⟩) t) cs v)
    (hc : ∀ c ∈ cs, hcell H c.1 c.2.1 = some c.2.2 ∧ Bel H.length c.2.2)
    (k : DTr P N l₀ t₀ H₀ Q l ((d, v) :: t) H (acc ++ [⟨.read cs, v, H, H⟩])) : DTr P N l₀ t₀ H₀ Q (⟨some d, op, ty, pos, af, some (j, want)⟩ :: l) t H acc :=
  DTr.cons ⟨.read cs, v, H, H⟩ rfl (lt_of hd) (noSel_ok hs) ⟨⟨e, hj, hb⟩, h, hc, rfl⟩ k
theorem DTr.a {cells : List Value} (hd : Nat.blt d N = true) (hs : noSel op = true) (h : AOk P N ⟨some d, op, ty, pos, af, none⟩ (restr (Oper.looksAt l₀.toArray ⟨some d, op, ty, pos, af, none⟩) t) cells H.length v)
    (k : DTr P N l₀ t₀ H₀ Q l ((d, v) :: t) (H ++ [.row false cells]) (acc ++ [⟨.alloc cells, v, H, H ++ [.row false cells]⟩])) : DTr P N l₀ t₀ H₀ Q (⟨some d, op, ty, pos, af, none⟩ :: l) t H acc :=
  DTr.cons (Ev.mk (.alloc cells) v H (H ++ [AObj.row false cells])) rfl (lt_of hd) (noSel_ok hs) ⟨trivial, h, rfl⟩ k
theorem DTr.w {H' : AHeap} (hd : Nat.blt d N = true) (hs : noSel op = true) (h : OpOk P N ⟨some d, op, ty, pos, af, none⟩ (restr (Oper.looksAt l₀.toArray ⟨some d, op, ty, pos, af, none⟩) t) H v H') (hl : H.length ≤ H'.length)
    (k : DTr P N l₀ t₀ H₀ Q l ((d, v) :: t) H' (acc ++ [⟨.write, v, H, H'⟩])) : DTr P N l₀ t₀ H₀ Q (⟨some d, op, ty, pos, af, none⟩ :: l) t H acc :=
  DTr.cons ⟨.write, v, H, H'⟩ rfl (lt_of hd) (noSel_ok hs) ⟨trivial, h, hl⟩ k
theorem DTr.gw {j e : Nat} {want : Bool} {H' : AHeap} (hj : (l₀.toArray[j]?).bind (·.dst) = some e) (hb : eget (restr (Oper.looksAt l₀.toArray ⟨some d, op, ty, pos, af, some (j, want)⟩) t) e = some (.bool want)) (hd : Nat.blt d N = true) (hs : noSel op = true)
    (h : OpOk P N ⟨some d, op, ty, pos, af, some (j, want)⟩ (restr (Oper.looksAt l₀.toArray ⟨some d, op, ty, pos, af, some (j, want)⟩) t) H v H') (hl : H.length ≤ H'.length)
    (k : DTr P N l₀ t₀ H₀ Q l ((d, v) :: t) H' (acc ++ [⟨.write, v, H, H'⟩])) : DTr P N l₀ t₀ H₀ Q (⟨some d, op, ty, pos, af, some (j, want)⟩ :: l) t H acc :=
  DTr.cons ⟨.write, v, H, H'⟩ rfl (lt_of hd) (noSel_ok hs) ⟨⟨e, hj, hb⟩, h, hl⟩ k
/-- a store -/
theorem DTr.s {H' : AHeap} (hs : noSel op = true) (h : OpOk P N ⟨none, op, ty, pos, af, none⟩ (restr (Oper.looksAt l₀.toArray ⟨none, op, ty, pos, af, none⟩) t) H v H') (hl : H.length ≤ H'.length)
    (k : DTr P N l₀ t₀ H₀ Q l t H' (acc ++ [⟨.write, v, H, H'⟩])) : DTr P N l₀ t₀ H₀ Q (⟨none, op, ty, pos, af, none⟩ :: l) t H acc :=
  DTr.cons ⟨.write, v, H, H'⟩ rfl lt_of_none (noSel_ok hs) ⟨trivial, h, hl⟩ k

/-- no writer: nothing is asked of memory -/
theorem dyn_noWrite {ops : List Oper} {es : List Ev} (h : (es.all fun e => !e.kd.isWrite) = true) : dynOk ops es := by
  intro k e hk u f hu hf
  rw [List.all_eq_true] at h
  have := h f (List.mem_of_getElem? hu)
  rw [hf] at this; cases this
/-- no writer changes what was there -/
theorem dyn_keep {ops : List Oper} {es : List Ev} (h : ∀ f ∈ es, f.kd = .write → ∀ i, i < f.H.length → hget f.H' i = hget f.H i) (hmono : ∀ (k u : Nat) e f, k < u → es[k]? = some e → es[u]? = some f → (∃ c, e.kd = .alloc c) → e.H.length < f.H.length) : dynOk ops es := by
  intro k e hk u f hu hf hun
  have h1 := h f (List.mem_of_getElem? hu) hf
  cases hkd : e.kd <;> dsimp only
  · exact fun c _ hlt => h1 _ hlt
  · rename_i cells
    exact fun hku => h1 _ (hmono k u e f hku hk hu ⟨cells, hkd⟩)
/-- writers that change nothing -/
theorem dyn_same {ops : List Oper} {es : List Ev} (ha : (es.all fun e => match e.kd with | .alloc _ => false | _ => true) = true) (h : ∀ f ∈ es, f.kd = .write → f.H' = f.H) : dynOk ops es := by
  intro k e hk u f hu hf hun
  have h1 := h f (List.mem_of_getElem? hu) hf
  rw [List.all_eq_true] at ha
  have h2 := ha e (List.mem_of_getElem? hk)
  cases hkd : e.kd <;> dsimp only
  · exact fun c _ _ => by rw [h1]
  · rw [hkd] at h2; cases h2
theorem one_read {H : AHeap} {i o n : Nat} {v : Value} (h : hcell H i o = some v) (hb : Bel n v) : ∀ c ∈ [(i, o, v)], hcell H c.1 c.2.1 = some c.2.2 ∧ Bel n c.2.2 := by
  intro c hc
  rw [List.mem_singleton] at hc
  subst hc
  exact ⟨h, hb⟩
theorem many_read {H : AHeap} {i n : Nat} {vs : List Value} (h : ∀ (j : Nat) v, vs[j]? = some v → hcell H i (0 + j) = some v) (hf : ∀ v ∈ vs, flat0 v = true) : ∀ c ∈ cellsFrom i 0 vs, hcell H c.1 c.2.1 = some c.2.2 ∧ Bel n c.2.2 := by
  intro c hc
  obtain ⟨j, h1, h2, h3⟩ := of_mem_cellsFrom vs 0 c hc
  rw [h2, h3]
  exact ⟨h j _ h1, .of_flat0 (hf _ (List.mem_of_getElem? h1))⟩
end d

end Go.Proofs.YtfiilgnebmidbaaDoor.Am
