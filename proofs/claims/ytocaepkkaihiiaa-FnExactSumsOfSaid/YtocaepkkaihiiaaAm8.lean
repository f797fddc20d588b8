/-
  An abstract machine over this model's programs, ninth part: a statement whose order of operations is open: one walk of the written order serves every order. No condition.
-/
import Derived.Test.YtocaepkkaihiiaaAm9
namespace Go.Proofs.Ytocaepkkaihiiaa.Am
open Go Go.RowKit
set_option linter.unusedVariables false
set_option linter.unusedSimpArgs false

/-- The slots that are asked for, alone. -/
def restr (ks : List Nat) (t : Env) : Env :=
  match ks with
  | [] => []
  | k :: ks => match eget t k with
    | some v => (k, v) :: restr ks t
    | none => restr ks t
theorem eget_restr {ks : List Nat} {t : Env} {k : Nat} {v : Value} (h : eget (restr ks t) k = some v) : k ∈ ks ∧ eget t k = some v := by
  induction ks with
  | nil => cases h
  | cons j ks ih =>
    simp only [restr] at h
    split at h
    · rename_i u e
      simp only [eget] at h
      split at h
      · rename_i hb
        rw [Nat.eq_of_beq_eq_true hb]
        obtain rfl := Option.some.inj h
        exact ⟨by simp, e⟩
      · have := ih h; exact ⟨by simp [this.1], this.2⟩
    · have := ih h; exact ⟨by simp [this.1], this.2⟩

/-- A value that speaks of blocks below n alone. -/
inductive Bel (n : Nat) : Value → Prop where
  | bool (b : Bool) : Bel n (.bool b)
  | int (k : IntKind) (x : Int) : Bel n (.int k x)
  | string (s : ByteArray) : Bel n (.string s)
  | nilPtr : Bel n (.pointer none)
  | ptr (i o : Nat) (h : i < n) : Bel n (.pointer (some ⟨i, o, none⟩))
  | nilSlice : Bel n (.slice none 0 0)
  | slice (i o k c : Nat) (h : i < n) : Bel n (.slice (some ⟨i, o, none⟩) k c)
  | nilMap : Bel n (.map none)
  | map (r : Nat) (h : r < n) : Bel n (.map (some r))
  | nilFunc : Bel n .nilFunc
  | nilIface : Bel n .nilIface
  | func (fn : Fn) (fs cs : Array Value) (hf : ∀ (i : Nat) v, fs[i]? = some v → Bel n v) (hc : ∀ (i : Nat) v, cs[i]? = some v → Bel n v) : Bel n (.func fn fs cs)
theorem V.beneath {φ : Phi} {n : Nat} {v : Value} (hb : Bel n v) : ∀ {u : Value}, V φ v u → V (fun i => if i < n then φ i else none) v u := by
  induction hb with
  | bool b => intro u h; cases h; exact .bool b
  | int k x => intro u h; cases h; exact .int k x
  | string s => intro u h; cases h; exact .string s
  | nilPtr => intro u h; cases h; exact .nilPtr
  | ptr i o hi => intro u h; cases h with | ptr _ _ L h => exact .ptr i o L (by rw [if_pos hi]; exact h)
  | nilSlice => intro u h; cases h; exact .nilSlice
  | slice i o k c hi => intro u h; cases h with | slice _ _ _ _ L c' h h1 h2 h3 => exact .slice i o k c L c' (by rw [if_pos hi]; exact h) h1 h2 h3 | empty _ _ a c' => exact .empty _ _ a c'
  | nilMap => intro u h; cases h; exact .nilMap
  | map r hi => intro u h; cases h with | map _ L h => exact .map r L (by rw [if_pos hi]; exact h)
  | nilFunc => intro u h; cases h; exact .nilFunc
  | nilIface => intro u h; cases h; exact .nilIface
  | func fn fs cs hf hc ihf ihc =>
    intro u h
    cases h with
    | func _ _ fs' _ cs' h1 h2 k1 k2 => exact .func fn fs fs' cs cs' h1 h2 (fun i v v' e e' => ihf i v e (k1 i v v' e e')) (fun i v v' e e' => ihc i v e (k2 i v v' e e'))
theorem Bel.of_flat0 {n : Nat} {v : Value} (h : flat0 v = true) : Bel n v := by
  unfold flat0 at h
  split at h
  · exact .bool _
  · exact .int _ _
  · exact .string _
  · exact .nilPtr
  · exact .nilSlice
  · exact .nilMap
  · exact .nilFunc
  · exact .nilIface
  · cases h

inductive Kd where
  | pure
  | skip
  | read (cs : List (Nat × Nat × Value))
  | alloc (cells : List Value)
  | write

/-- One operation of the written order: what it is, what it yields, memory before and behind it. -/
structure Ev where
  kd : Kd
  v : Value
  H : AHeap
  H' : AHeap

/-- A read: the same in every memory that has these cells. -/
def ROk (P : Program) (N : Nat) (o : Oper) (t : Env) (cs : List (Nat × Nat × Value)) (v : Value) : Prop :=
  ∀ (h : Nat → Nat → Option Value) (φ : Phi) (w : World) (a : Act), (∀ c ∈ cs, h c.1 c.2.1 = some c.2.2) →
    (∀ i o c L, φ i = some L → h i o = some c → ∃ c', w.cell? ⟨L.block, L.off + o, none⟩ = some c' ∧ V φ c c') → EnvR' φ t a → ∃ v', (execOp a.eval o).run P w = .ok (.value v') w ∧ V φ v v'
 where
  EnvR' (φ : Phi) (t : Env) (a : Act) : Prop := ∀ k v, eget t k = some v → ∃ v', a.tmps[k]? = some v' ∧ V φ v v'

/-- What is made: one block, of the operands alone. -/
def AOk (P : Program) (N : Nat) (o : Oper) (t : Env) (cells : List Value) (i : Nat) (v : Value) : Prop :=
  ∀ (φ : Phi) (w : World) (a : Act), EnvR φ N t a → ∃ v' cs T, (execOp a.eval o).run P w = .ok (.value v') (w.alloc (.cells cs T)) ∧ cells.length ≤ cs.size ∧
    (∀ (j : Nat) c c', cells[j]? = some c → cs[j]? = some c' → V φ c c') ∧ ∀ φ' : Phi, φ' i = some ⟨w.heap.size, 0, cs.size⟩ → (∀ i L, φ i = some L → φ' i = some L) → V φ' v v'

def Wants (ops : Array Oper) (o : Oper) (t : Env) : Prop :=
  match o.guard with
  | none => True
  | some (j, want) => ∃ d, (ops[j]?).bind (·.dst) = some d ∧ eget t d = some (.bool want)
def WantsNot (ops : Array Oper) (o : Oper) (t : Env) : Prop :=
  match o.guard with
  | none => False
  | some (j, want) => ∃ d, (ops[j]?).bind (·.dst) = some d ∧ (eget t d = some (.bool (!want)) ∨ eget t d = some undef)

def OpEv (P : Program) (N : Nat) (ops : Array Oper) (o : Oper) (t : Env) (e : Ev) : Prop :=
  match e.kd with
  | .pure => Wants ops o t ∧ PureOk P N o t e.v ∧ e.H' = e.H
  | .skip => WantsNot ops o t ∧ e.v = undef ∧ e.H' = e.H
  | .read cs => Wants ops o t ∧ ROk P N o t cs e.v ∧ (∀ c ∈ cs, hcell e.H c.1 c.2.1 = some c.2.2 ∧ Bel e.H.length c.2.2) ∧ e.H' = e.H
  | .alloc cells => Wants ops o t ∧ AOk P N o t cells e.H.length e.v ∧ e.H' = e.H ++ [.row false cells]
  | .write => Wants ops o t ∧ OpOk P N o t e.H e.v e.H' ∧ e.H.length ≤ e.H'.length

/-- The written order from operation k on, frame t, memory H. -/
def Trace (P : Program) (N : Nat) (ops : Array Oper) : List Oper → Env → AHeap → List Ev → Prop
  | [], _, _, es => es = []
  | o :: l, t, H, es => ∃ e es', es = e :: es' ∧ e.H = H ∧ (∀ k, o.dst = some k → k < N) ∧ (∀ cs b, o.op ≠ .select cs b) ∧ OpEv P N ops o (restr (o.looksAt ops) t) e ∧ Trace P N ops l (eput t o.dst e.v) e.H' es'

/-- Which operations stand before operation i, by its edges and theirs. -/
def befAll (ops : List Oper) : List (List Nat) :=
  ops.foldl (fun acc o => acc ++ [o.after.toList.foldl (fun s e => if Region.binds .any e then (e.on :: acc.getD e.on []) ++ s else s) []]) []

def Kd.isWrite : Kd → Bool
  | .write => true
  | _ => false

/-- What is asked of the edges: they point back; what writes is in order; an operation and one that writes a slot that it names are in order. -/
def staticOk (ops : List Oper) (opsA : Array Oper) (wr : List Bool) : Bool :=
  let bef := befAll ops
  (List.range ops.length).all fun k =>
    let ok := ops.getD k default
    let bk := bef.getD k []
    (ok.after.toList.all fun e => !Region.binds .any e || Nat.blt e.on k) &&
    (List.range k).all fun j =>
      bk.contains j ||
        ((ops.getD j default).apart opsA ok && !(wr.getD j false && wr.getD k false))

def unord (bef : List (List Nat)) (j k : Nat) : Prop := j ∉ bef.getD k [] ∧ k ∉ bef.getD j []

/-- What is asked of memory: a cell that is read, or a block that is made, is not touched by a writer that may come at another time. -/
def dynOk (ops : List Oper) (es : List Ev) : Prop :=
  ∀ (k : Nat) (e : Ev), es[k]? = some e → ∀ (u : Nat) (f : Ev), es[u]? = some f → f.kd = .write → unord (befAll ops) k u →
    match e.kd with
    | .read cs => ∀ c ∈ cs, c.1 < f.H.length → hget f.H' c.1 = hget f.H c.1
    | .alloc cells => k < u → hget f.H' e.H.length = hget f.H e.H.length
    | _ => True

def hAt (H : AHeap) (es : List Ev) : Nat → AHeap
  | 0 => H
  | k + 1 => match es[k]? with
    | some e => e.H'
    | none => H
def vAt (es : List Ev) (k : Nat) : Value := match es[k]? with
  | some e => e.v
  | none => undef
def dAt (l : List Oper) (k : Nat) : Option Tmp := (l[k]?).bind (·.dst)
def eAt (l : List Oper) (es : List Ev) (t : Env) : Nat → Env
  | 0 => t
  | k + 1 => eput (eAt l es t k) (dAt l k) (vAt es k)

theorem eAt_cons (o : Oper) (l : List Oper) (e : Ev) (es : List Ev) (t : Env) : ∀ k, eAt (o :: l) (e :: es) t (k + 1) = eAt l es (eput t o.dst e.v) k
  | 0 => rfl
  | k + 1 => by
    have := eAt_cons o l e es t k
    show eput (eAt (o :: l) (e :: es) t (k + 1)) (dAt (o :: l) (k + 1)) (vAt (e :: es) (k + 1)) = _
    rw [this]; rfl
theorem hAt_cons (H : AHeap) (e : Ev) (es : List Ev) : ∀ k, k ≤ es.length → hAt H (e :: es) (k + 1) = hAt e.H' es k
  | 0, _ => rfl
  | k + 1, h => by
    have : es[k]? = some es[k] := List.getElem?_eq_getElem (by omega)
    simp [hAt, this]

theorem trace_at {P : Program} {N : Nat} {ops : Array Oper} : ∀ (l : List Oper) (t : Env) (H : AHeap) (es : List Ev), Trace P N ops l t H es →
    es.length = l.length ∧ ∀ (k : Nat) o, l[k]? = some o → ∃ e, es[k]? = some e ∧ e.H = hAt H es k ∧ (∀ d, o.dst = some d → d < N) ∧ (∀ cs b, o.op ≠ .select cs b) ∧ OpEv P N ops o (restr (o.looksAt ops) (eAt l es t k)) e
  | [], t, H, es, h => by
    obtain rfl : es = [] := h
    exact ⟨rfl, fun k o e => by simp at e⟩
  | o :: l, t, H, es, h => by
    obtain ⟨e, es', rfl, hH, hd, hsel, hop, hr⟩ := h
    obtain ⟨h1, h2⟩ := trace_at l _ _ es' hr
    refine ⟨by simp [h1], fun k o' hk => ?_⟩
    cases k with
    | zero =>
      simp at hk
      subst hk
      exact ⟨e, rfl, hH, hd, hsel, hop⟩
    | succ k =>
      simp at hk
      obtain ⟨e', k1, k2, k3, k4, k5⟩ := h2 k o' hk
      have hlt : k < l.length := (List.getElem?_eq_some_iff.1 hk).1
      refine ⟨e', by simpa using k1, ?_, k3, k4, ?_⟩
      · rw [hAt_cons H e es' k (by omega)]; exact k2
      · rw [eAt_cons]; exact k5

theorem eAt_get {l : List Oper} {es : List Ev} {t : Env} {x : Nat} {v : Value} : ∀ k, eget (eAt l es t k) x = some v →
    (∃ j, j < k ∧ dAt l j = some x ∧ v = vAt es j ∧ ∀ j', j < j' → j' < k → dAt l j' ≠ some x) ∨ (eget t x = some v ∧ ∀ j', j' < k → dAt l j' ≠ some x)
  | 0, h => .inr ⟨h, fun j' hj => by omega⟩
  | k + 1, h => by
    simp only [eAt, eput] at h
    cases hd : dAt l k with
    | none =>
      rw [hd] at h
      rcases eAt_get k h with ⟨j, h1, h2, h3, h4⟩ | ⟨h1, h2⟩
      · refine .inl ⟨j, by omega, h2, h3, fun j' a b => ?_⟩
        by_cases he : j' = k
        · subst he; rw [hd]; simp
        · exact h4 j' a (by omega)
      · refine .inr ⟨h1, fun j' b => ?_⟩
        by_cases he : j' = k
        · subst he; rw [hd]; simp
        · exact h2 j' (by omega)
    | some d =>
      rw [hd] at h
      simp only [eget] at h
      cases hb : Nat.beq x d with
      | true =>
        rw [hb] at h
        obtain rfl := Nat.eq_of_beq_eq_true hb
        exact .inl ⟨k, by omega, hd, (Option.some.inj h).symm, fun j' a b => by omega⟩
      | false =>
        rw [hb] at h
        have hne : d ≠ x := fun he => by subst he; simp at hb
        rcases eAt_get k h with ⟨j, h1, h2, h3, h4⟩ | ⟨h1, h2⟩
        · refine .inl ⟨j, by omega, h2, h3, fun j' a b => ?_⟩
          by_cases he : j' = k
          · subst he; rw [hd]; simpa using hne
          · exact h4 j' a (by omega)
        · refine .inr ⟨h1, fun j' b => ?_⟩
          by_cases he : j' = k
          · subst he; rw [hd]; simpa using hne
          · exact h2 j' (by omega)

/-! edges -/
theorem befAll_len (ops : List Oper) : (befAll ops).length = ops.length ∧ ∀ (k : Nat) o, ops[k]? = some o → (befAll ops).getD k [] = o.after.toList.foldl (fun s e => if Region.binds .any e then (e.on :: ((befAll ops).take k).getD e.on []) ++ s else s) [] := by
  have key : ∀ (l : List Oper) (acc : List (List Nat)),
      let r := l.foldl (fun acc o => acc ++ [o.after.toList.foldl (fun s e => if Region.binds .any e then (e.on :: acc.getD e.on []) ++ s else s) []]) acc
      r.length = acc.length + l.length ∧ r.take acc.length = acc ∧ ∀ (k : Nat) o, l[k]? = some o → r.getD (acc.length + k) [] = o.after.toList.foldl (fun s e => if Region.binds .any e then (e.on :: (r.take (acc.length + k)).getD e.on []) ++ s else s) [] := by
    intro l
    induction l with
    | nil => intro acc; simp
    | cons o l ih =>
      intro acc
      simp only [List.foldl_cons]
      obtain ⟨h1, h2, h3⟩ := ih (acc ++ [o.after.toList.foldl (fun s e => if Region.binds .any e then (e.on :: acc.getD e.on []) ++ s else s) []])
      simp only [List.length_append, List.length_cons, List.length_nil] at h1 h2 h3
      refine ⟨by rw [h1]; simp; omega, ?_, fun k o' hk => ?_⟩
      · have := congrArg (List.take acc.length) h2
        rw [List.take_take, Nat.min_eq_left (by omega)] at this
        rw [this]; simp
      · cases k with
        | zero =>
          simp at hk
          subst hk
          have h4 := congrArg (List.take acc.length) h2
          rw [List.take_take, Nat.min_eq_left (by omega)] at h4
          have h5 : (List.take acc.length (acc ++ [o.after.toList.foldl (fun s e => if Region.binds .any e then (e.on :: acc.getD e.on []) ++ s else s) []])) = acc := by simp
          rw [h5] at h4
          rw [Nat.add_zero, h4]
          generalize List.foldl _ _ l = r at h2 ⊢
          have h6 : r[acc.length]? = (r.take (acc.length + 1))[acc.length]? := by rw [List.getElem?_take_of_lt (by omega)]
          simp only [List.getD]
          rw [h6, h2]
          simp
        | succ k =>
          simp at hk
          have := h3 k o' hk
          rw [show acc.length + (k + 1) = acc.length + (0 + 1) + k by omega]
          simpa using this
  have := key ops []
  simp only [List.length_nil, Nat.zero_add] at this
  exact ⟨this.1, this.2.2⟩

theorem fold_mem {m : Nat} (es : List Edge) (f : Nat → List Nat) : ∀ s, m ∈ es.foldl (fun s e => if Region.binds .any e then (e.on :: f e.on) ++ s else s) s → m ∈ s ∨ ∃ e ∈ es, Region.binds .any e = true ∧ (m = e.on ∨ m ∈ f e.on) := by
  induction es with
  | nil => intro s h; exact .inl h
  | cons e es ih =>
    intro s h
    simp only [List.foldl_cons] at h
    rcases ih _ h with h | ⟨e', h1, h2, h3⟩
    · split at h
      · rename_i hb
        simp only [List.cons_append, List.mem_cons, List.mem_append] at h
        rcases h with h | h | h
        · exact .inr ⟨e, by simp, hb, .inl h⟩
        · exact .inr ⟨e, by simp, hb, .inr h⟩
        · exact .inl h
      · exact .inl h
    · exact .inr ⟨e', by simp [h1], h2, h3⟩

/-- what stands before an operation whose edges are met is met -/
theorem bef_listed {ops : List Oper} {S : Nat → Prop} (hS : ∀ k o, S k → ops[k]? = some o → ∀ e ∈ o.after.toList, Region.binds .any e = true → S e.on) (hback : ∀ (k : Nat) o, ops[k]? = some o → ∀ e ∈ o.after.toList, Region.binds .any e = true → e.on < k) :
    ∀ (k : Nat) o, ops[k]? = some o → (∀ e ∈ o.after.toList, Region.binds .any e = true → S e.on) → ∀ j, j ∈ (befAll ops).getD k [] → S j := by
  intro k
  induction k using Nat.strongRecOn with
  | _ k ih =>
    intro o ho hr j hj
    obtain ⟨hlen, hget⟩ := befAll_len ops
    rw [hget k o ho] at hj
    rcases fold_mem _ (fun n => ((befAll ops).take k).getD n []) _ hj with h | ⟨e, h1, h2, h3⟩
    · simp at h
    · have hlt := hback k o ho e h1 h2
      have hSe := hr e h1 h2
      rcases h3 with rfl | h3
      · exact hSe
      · have hon : e.on < ops.length := by have := (List.getElem?_eq_some_iff.1 ho).1; omega
        have e1 : ops[e.on]? = some ops[e.on] := List.getElem?_eq_getElem hon
        have e2 : ((befAll ops).take k).getD e.on [] = (befAll ops).getD e.on [] := by simp only [List.getD]; rw [List.getElem?_take_of_lt hlt]
        rw [e2] at h3
        exact ih e.on hlt _ e1 (fun e' h h' => hS _ _ hSe e1 e' h h') j h3
theorem bef_lt {ops : List Oper} (hback : ∀ (k : Nat) o, ops[k]? = some o → ∀ e ∈ o.after.toList, Region.binds .any e = true → e.on < k) (k : Nat) (o : Oper) (ho : ops[k]? = some o) (j : Nat) (hj : j ∈ (befAll ops).getD k []) : j < k := by
  have := bef_listed (ops := ops) (S := fun m => m < k) (fun m o' hm ho' e he hb => Nat.lt_trans (hback m o' ho' e he hb) hm) hback k o ho (fun e he hb => hback k o ho e he hb) j hj
  exact this

end Go.Proofs.Ytocaepkkaihiiaa.Am
