/-
  An abstract machine over this model's programs, eighth part: code, calls, function bodies. No condition.
-/
import Derived.Test.YtocaepkkaihiiaaAm6
namespace Go.Proofs.Ytocaepkkaihiiaa.Am
open Go Go.RowKit
set_option linter.unusedVariables false
set_option linter.unusedSimpArgs false

/-- What stands behind a piece of code: 'Q' of the abstract state, in a world that has come from the start by a step. -/
def Post (W : World) (φ : Phi) (H : AHeap) (w : World) (N : Nat) (dfr : List Deferred) (Q : Exit → Env → AHeap → Prop) (ex : Exit) (a' : Act) (w' : World) : Prop :=
  a'.defers = dfr ∧ ∃ φ' t' H', Sim W φ' H' w' ∧ EnvR φ' N t' a' ∧ Step φ H w φ' H' w' ∧ Q ex t' H'

def AOps (P : Program) (N : Nat) (ops : Array Oper) (l : List Oper) (t : Env) (H : AHeap) (Q : Exit → Env → AHeap → Prop) : Prop :=
  ∀ W φ₀ H₀ w₀ dfr φ w a, Sim W φ H w → EnvR φ N t a → Step φ₀ H₀ w₀ φ H w → a.defers = dfr → wpList P ops (Post W φ₀ H₀ w₀ N dfr Q) l a w

def AWp (P : Program) (N : Nat) (c : Code) (t : Env) (H : AHeap) (Q : Exit → Env → AHeap → Prop) : Prop :=
  ∀ W φ₀ H₀ w₀ dfr φ w a, Sim W φ H w → EnvR φ N t a → Step φ₀ H₀ w₀ φ H w → a.defers = dfr → c.wp P (Post W φ₀ H₀ w₀ N dfr Q) a w

def aThen (next : Env → AHeap → Prop) (Q : Exit → Env → AHeap → Prop) : Exit → Env → AHeap → Prop
  | .normal, t, H => next t H
  | e, t, H => Q e t H
def aBlock (id : Nat) (Q : Exit → Env → AHeap → Prop) : Exit → Env → AHeap → Prop
  | .exit id', t, H => match Nat.beq id' id with
    | true => Q .normal t H
    | false => Q (.exit id') t H
  | e, t, H => Q e t H

section rules
variable {P : Program} {N : Nat} {ops : Array Oper} {t : Env} {H : AHeap} {Q : Exit → Env → AHeap → Prop}

theorem AOps.nil (h : Q .normal t H) : AOps P N ops [] t H Q :=
  fun W φ₀ H₀ w₀ dfr φ w a hs he hst hd => ⟨hd, φ, t, H, hs, he, hst, h⟩

theorem AOps.cons {o : Oper} {rest : List Oper} {v : Value} {H' : AHeap} (hg : o.guard = none) (h : OpOk P N o t H v H') (hd : ∀ k, o.dst = some k → k < N)
    (hr : AOps P N ops rest (eput t o.dst v) H' Q) : AOps P N ops (o :: rest) t H Q := by
  intro W φ₀ H₀ w₀ dfr φ w a hs he hst hdf
  unfold wpList
  rw [if_pos (by simp [Region.wanted, hg])]
  refine .inl (Does.wp (h W φ w a hs he) fun v' w' ⟨φ', h1, h2, h3⟩ => ?_)
  refine hr W φ₀ H₀ w₀ dfr φ' w' _ h1 ((he.mono (h3.keeps hs)).put hd h2) (hst.trans h3) ?_
  cases hdst : o.dst <;> simpa [Act.put, hdst] using hdf

theorem yielded_ok {φ : Phi} {a : Act} (he : EnvR φ N t a) {j d : Nat} {b : Bool} (hj : (ops[j]?).bind (·.dst) = some d) (hb : eget t d = some (.bool b)) : yielded ops a.tmps j = some b := by
  obtain ⟨v', h1, h2⟩ := he.get d _ hb
  obtain rfl := V.of_flat (.bool b) h2
  simp [yielded, hj, h1]

theorem AOps.guardT {o : Oper} {rest : List Oper} {v : Value} {H' : AHeap} {j d : Nat} {want : Bool} (hg : o.guard = some (j, want)) (hj : (ops[j]?).bind (·.dst) = some d) (hb : eget t d = some (.bool want))
    (h : OpOk P N o t H v H') (hd : ∀ k, o.dst = some k → k < N) (hr : AOps P N ops rest (eput t o.dst v) H' Q) : AOps P N ops (o :: rest) t H Q := by
  intro W φ₀ H₀ w₀ dfr φ w a hs he hst hdf
  unfold wpList
  rw [if_pos (by simp [Region.wanted, hg, yielded_ok he hj hb])]
  refine .inl (Does.wp (h W φ w a hs he) fun v' w' ⟨φ', h1, h2, h3⟩ => ?_)
  refine hr W φ₀ H₀ w₀ dfr φ' w' _ h1 ((he.mono (h3.keeps hs)).put hd h2) (hst.trans h3) ?_
  cases hdst : o.dst <;> simpa [Act.put, hdst] using hdf

theorem undef_flat : Flat undef := .tuple _ (fun i v h => by simp at h)
theorem yielded_no {φ : Phi} {a : Act} (he : EnvR φ N t a) {j d : Nat} {want : Bool} (hj : (ops[j]?).bind (·.dst) = some d) (hb : eget t d = some (.bool (!want)) ∨ eget t d = some undef) : ¬ (yielded ops a.tmps j = some want) := by
  rcases hb with hb | hb
  · rw [yielded_ok he hj hb]; simp
  · obtain ⟨v', h1, h2⟩ := he.get d _ hb
    obtain rfl := V.of_flat undef_flat h2
    simp [yielded, hj, h1, undef]

theorem AOps.guardF {o : Oper} {rest : List Oper} {j d : Nat} {want : Bool} (hg : o.guard = some (j, want)) (hj : (ops[j]?).bind (·.dst) = some d) (hb : eget t d = some (.bool (!want)) ∨ eget t d = some undef)
    (hd : ∀ k, o.dst = some k → k < N) (hr : AOps P N ops rest (eput t o.dst undef) H Q) : AOps P N ops (o :: rest) t H Q := by
  intro W φ₀ H₀ w₀ dfr φ w a hs he hst hdf
  unfold wpList
  rw [if_neg (by simpa [Region.wanted, hg] using yielded_no he hj hb)]
  refine hr W φ₀ H₀ w₀ dfr φ w _ hs (he.put hd (V.flat undef_flat)) hst ?_
  cases hdst : o.dst <;> simpa [Act.put, hdst] using hdf

/-- A bool of the frame by cases. -/
theorem AOps.cases {l : List Oper} {d : Nat} {b : Bool} (h : eget t d = some (.bool b)) (hT : b = true → AOps P N ops l ((d, .bool true) :: t) H Q) (hF : b = false → AOps P N ops l ((d, .bool false) :: t) H Q) : AOps P N ops l t H Q := by
  have hsub : ∀ c, b = c → Sub ((d, .bool c) :: t) t := fun c hc => Sub.cons (by rw [h, hc]) (Sub.refl t)
  intro W φ₀ H₀ w₀ dfr φ w a hs he hst hdf
  cases b with
  | true => exact hT rfl W φ₀ H₀ w₀ dfr φ w a hs (he.sub (hsub true rfl)) hst hdf
  | false => exact hF rfl W φ₀ H₀ w₀ dfr φ w a hs (he.sub (hsub false rfl)) hst hdf

theorem AOps.sub {l : List Oper} {t' : Env} (hs : Sub t' t) (h : AOps P N ops l t' H Q) : AOps P N ops l t H Q :=
  fun W φ₀ H₀ w₀ dfr φ w a hs' he hst hdf => h W φ₀ H₀ w₀ dfr φ w a hs' (he.sub hs) hst hdf

theorem AWp.sub {c : Code} {t' : Env} (hs : Sub t' t) (h : AWp P N c t' H Q) : AWp P N c t H Q :=
  fun W φ₀ H₀ w₀ dfr φ w a hs' he hst hdf => h W φ₀ H₀ w₀ dfr φ w a hs' (he.sub hs) hst hdf

theorem Post.mono {W : World} {φ : Phi} {H₀ : AHeap} {w : World} {dfr : List Deferred} {Q' : Exit → Env → AHeap → Prop} (hq : ∀ e t H, Q e t H → Q' e t H) {ex : Exit} {a' : Act} {w' : World}
    (h : Post W φ H₀ w N dfr Q ex a' w') : Post W φ H₀ w N dfr Q' ex a' w' :=
  let ⟨hd, φ', t', H', h1, h2, h3, h4⟩ := h
  ⟨hd, φ', t', H', h1, h2, h3, hq _ _ _ h4⟩

theorem AWp.mono {c : Code} {Q' : Exit → Env → AHeap → Prop} (hq : ∀ e t H, Q e t H → Q' e t H) (h : AWp P N c t H Q) : AWp P N c t H Q' :=
  fun W φ₀ H₀ w₀ dfr φ w a hs he hst hdf => wp_mono (h W φ₀ H₀ w₀ dfr φ w a hs he hst hdf) fun _ _ _ q => q.mono hq

theorem AWp.region {id : Nat} {l : List Oper} (h : AOps P N l.toArray l t H Q) : AWp P N (.region id l.toArray false) t H Q :=
  fun W φ₀ H₀ w₀ dfr φ w a hs he hst hdf => wp_region_lit (h W φ₀ H₀ w₀ dfr φ w a hs he hst hdf)

theorem AWp.seq {x y : Code} (h : AWp P N x t H (aThen (fun t' H' => AWp P N y t' H' Q) Q)) : AWp P N (.seq x y) t H Q := by
  intro W φ₀ H₀ w₀ dfr φ w a hs he hst hdf
  refine wp_seq (wp_mono (h W φ₀ H₀ w₀ dfr φ w a hs he hst hdf) ?_)
  rintro e a' w' ⟨hd, φ', t', H', h1, h2, h3, h4⟩
  cases e with
  | normal => exact h4 W φ₀ H₀ w₀ dfr φ' w' a' h1 h2 h3 hd
  | _ => exact ⟨hd, φ', t', H', h1, h2, h3, h4⟩

theorem AWp.skip (h : Q .normal t H) : AWp P N .skip t H Q :=
  fun W φ₀ H₀ w₀ dfr φ w a hs he hst hdf => wp_skip ⟨hdf, φ, t, H, hs, he, hst, h⟩
theorem AWp.ret (h : Q .ret t H) : AWp P N .ret t H Q :=
  fun W φ₀ H₀ w₀ dfr φ w a hs he hst hdf => wp_ret ⟨hdf, φ, t, H, hs, he, hst, h⟩
theorem AWp.exit {id : Nat} (h : Q (.exit id) t H) : AWp P N (.exit id) t H Q :=
  fun W φ₀ H₀ w₀ dfr φ w a hs he hst hdf => wp_exit ⟨hdf, φ, t, H, hs, he, hst, h⟩

theorem AWp.cond {c : Operand} {x y : Code} {b : Bool} (hc : aEv t c = some (.bool b)) (hT : b = true → AWp P N x t H Q) (hF : b = false → AWp P N y t H Q) : AWp P N (.cond c x y) t H Q :=
  fun W φ₀ H₀ w₀ dfr φ w a hs he hst hdf => wp_cond_split (ev_bool he hc) (fun h => hT h W φ₀ H₀ w₀ dfr φ w a hs he hst hdf) (fun h => hF h W φ₀ H₀ w₀ dfr φ w a hs he hst hdf)

theorem AWp.block {id : Nat} {c : Code} (h : AWp P N c t H (aBlock id Q)) : AWp P N (.block id c) t H Q := by
  intro W φ₀ H₀ w₀ dfr φ w a hs he hst hdf
  refine wp_block (wp_mono (h W φ₀ H₀ w₀ dfr φ w a hs he hst hdf) ?_)
  rintro e a' w' ⟨hd, φ', t', H', h1, h2, h3, h4⟩
  cases e with
  | exit id' =>
    simp only [Exit.inBlock, aBlock] at h4 ⊢
    split
    · rename_i h; subst h; simp only [Nat.beq_refl] at h4; exact ⟨hd, φ', t', H', h1, h2, h3, h4⟩
    · rename_i h
      have hb : Nat.beq id' id = false := by
        cases hb : Nat.beq id' id with
        | true => exact absurd (Nat.eq_of_beq_eq_true hb) h
        | false => rfl
      rw [hb] at h4; exact ⟨hd, φ', t', H', h1, h2, h3, h4⟩
  | _ => exact ⟨hd, φ', t', H', h1, h2, h3, h4⟩

theorem exists_least {p : Nat → Prop} (h : ∃ n, p n) : ∃ n, p n ∧ ∀ m, p m → n ≤ m := by
  obtain ⟨n, hn⟩ := h
  induction n using Nat.strongRecOn with
  | _ n ih =>
    rcases Classical.em (∃ m, m < n ∧ p m) with ⟨m, hm, hp⟩ | hno
    · exact ih m hm hp
    · exact ⟨n, hn, fun m hp => Nat.le_of_not_lt fun hlt => hno ⟨m, hlt, hp⟩⟩
open Classical in
theorem AWp.loop {c : Code} (I : Nat → Env → AHeap → Prop) (n₀ : Nat) (h₀ : I n₀ t H)
    (round : ∀ n t H, I n t H → AWp P N c t H (aThen (fun t' H' => ∃ m, m < n ∧ I m t' H') Q)) : AWp P N (.loop c) t H Q := by
  intro W φ₀ H₀ w₀ dfr φ w a hs he hst hdf
  let J : Nat → Act → World → Prop := fun n a w => a.defers = dfr ∧ ∃ φ t H, Sim W φ H w ∧ EnvR φ N t a ∧ Step φ₀ H₀ w₀ φ H w ∧ I n t H
  let μ : Act → World → Nat := fun a w => if h : ∃ n, J n a w then Classical.choose (exists_least h) else 0
  refine wp_loop (fun a w => ∃ n, J n a w) μ ⟨n₀, hdf, φ, t, H, hs, he, hst, h₀⟩ ?_
  intro a w hI
  have hμ : μ a w = Classical.choose (exists_least hI) := dif_pos hI
  obtain ⟨hd, φ, t, H, h1, h2, h3, h4⟩ := (Classical.choose_spec (exists_least hI)).1
  refine wp_mono (round _ t H h4 W φ₀ H₀ w₀ dfr φ w a h1 h2 h3 hd) ?_
  rintro e a' w' ⟨hd', φ', t', H', k1, k2, k3, k4⟩
  cases e with
  | normal =>
    obtain ⟨m, hm, hIm⟩ := k4
    have hJ : ∃ n, J n a' w' := ⟨m, hd', φ', t', H', k1, k2, k3, hIm⟩
    refine ⟨hJ, ?_⟩
    have hμ' : μ a' w' = Classical.choose (exists_least hJ) := dif_pos hJ
    rw [hμ, hμ']
    exact Nat.lt_of_le_of_lt ((Classical.choose_spec (exists_least hJ)).2 m ⟨hd', φ', t', H', k1, k2, k3, hIm⟩) hm
  | _ => exact ⟨hd', φ', t', H', k1, k2, k3, k4⟩

end rules

/-! ### Calls -/
structure VA (φ : Phi) (args : List Value) (args' : Array Value) : Prop where
  size : args'.size = args.length
  get : ∀ (i : Nat) v v', args[i]? = some v → args'[i]? = some v' → V φ v v'

/-- Function f, called with these in this memory, hands back v and leaves memory H'. -/
def ACall (P : Program) (f : FuncId) (args : List Value) (H : AHeap) (v : Value) (H' : AHeap) : Prop :=
  ∀ W φ w args', Sim W φ H w → VA φ args args' → Calls P f args' w fun e w' => ∃ v' φ', e = .returned v' ∧ Sim W φ' H' w' ∧ V φ' v v' ∧ Step φ H w φ' H' w'

def envOf (args : List Value) : Env := args.zipIdx.map fun p => (p.2, p.1)
theorem eget_envOf (l : List Value) : ∀ (k n : Nat), eget ((l.zipIdx k).map fun p => (p.2, p.1)) n = if n < k then none else l[n - k]? := by
  induction l with
  | nil => intro k n; simp [eget]
  | cons v l ih =>
    intro k n
    simp only [List.zipIdx_cons, List.map_cons, eget]
    by_cases h : n = k
    · subst h; simp
    · have : Nat.beq n k = false := by
        cases hb : Nat.beq n k with
        | true => exact absurd (Nat.eq_of_beq_eq_true hb) h
        | false => rfl
      rw [this]; dsimp only
      rw [ih]
      by_cases h2 : n < k
      · rw [if_pos h2, if_pos (by omega)]
      · rw [if_neg h2, if_neg (by omega), show n - k = (n - (k + 1)) + 1 by omega]; simp

/-- What the result variables read. -/
def ResOk (P : Program) (N : Nat) (fn : Func) (t : Env) (H : AHeap) (v : Value) : Prop :=
  ∀ W φ w a, Sim W φ H w → EnvR φ N t a → ∃ v', (results fn a.tmps).run P w = .ok v' w ∧ V φ v v'

/-- What is left of memory behind the call: v0, H0 in the place of v, H'. -/
def Fin (H : AHeap) (v : Value) (H' : AHeap) (v₀ : Value) (H₀ : AHeap) : Prop :=
  ∀ W φ w φ' w' v', Sim W φ H w → Step φ H w φ' H' w' → Sim W φ' H' w' → V φ' v v' → ∃ φ'', Sim W φ'' H₀ w' ∧ V φ'' v₀ v' ∧ Step φ H w φ'' H₀ w'
theorem Fin.refl (H : AHeap) (v : Value) (H' : AHeap) : Fin H v H' v H' := fun W φ w φ' w' v' _ h2 h3 h4 => ⟨φ', h3, h4, h2⟩

def Ends (P : Program) (N : Nat) (fn : Func) (H : AHeap) (v₀ : Value) (H₀ : AHeap) (ex : Exit) (t : Env) (H' : AHeap) : Prop :=
  (ex = .normal ∨ ex = .ret) ∧ ∃ v, ResOk P N fn t H' v ∧ Fin H v H' v₀ H₀

theorem ACall.of_body {P : Program} {f : FuncId} {fn : Func} {c : Code} {args : List Value} {H : AHeap} {v : Value} {H' : AHeap} {N : Nat} (hf : P.funcs[f]? = some fn) (hb : fn.body = some c)
    (hN : fn.ntmps = N) (hle : args.length ≤ N) (h : AWp P N c (envOf args) H (Ends P N fn H v H')) : ACall P f args H v H' := by
  intro W φ w args' hs hva
  refine calls_of_wp hf hb ?_
  refine wp_mono (h W φ H w [] φ w _ hs ⟨?_, ?_⟩ (Step.refl _ _ _) rfl) ?_
  · simp [hva.size, hN]; omega
  · intro k u e
    have e2 : args[k]? = some u := by
      have := eget_envOf args 0 k
      simp only [Nat.not_lt_zero, if_false, Nat.sub_zero] at this
      exact this.symm.trans e
    have hk : k < args'.size := by rw [hva.size]; exact (List.getElem?_eq_some_iff.1 e2).1
    exact ⟨args'[k], by rw [Array.getElem?_append_left hk]; exact Array.getElem?_eq_getElem hk, hva.get k u _ e2 (Array.getElem?_eq_getElem hk)⟩
  · rintro e a' w' ⟨hd, φ', t', H'', h1, h2, h3, h4, u, h5, h6⟩
    obtain ⟨u', h7, h8⟩ := h5 W φ' w' a' h1 h2
    obtain ⟨φ'', h9, h10, h11⟩ := h6 W φ w φ' w' u' hs h3 h1 h8
    rcases h4 with rfl | rfl
    · exact ⟨hd, u', h7, u', φ'', rfl, h9, h10, h11⟩
    · exact ⟨hd, u', h7, u', φ'', rfl, h9, h10, h11⟩

section res
variable {P : Program} {N : Nat} {fn : Func} {t : Env} {H : AHeap}
theorem res_tmp {r : Nat} {v : Value} (h : fn.results = #[.tmp r]) (hv : eget t r = some v) : ResOk P N fn t H v := by
  intro W φ w a hs he
  obtain ⟨v', h1, h2⟩ := he.get r v hv
  exact ⟨v', by simp [results, h, h1], h2⟩
theorem tuple2 {φ : Phi} {a b a' b' : Value} (h1 : V φ a a') (h2 : V φ b b') : V φ (.tuple #[a, b]) (.tuple #[a', b']) :=
  .tuple _ _ rfl fun i v v' e e' => by
    match i with
    | 0 => simp at e e'; subst e; subst e'; exact h1
    | 1 => simp at e e'; subst e; subst e'; exact h2
    | n + 2 => simp at e
theorem tuple3 {φ : Phi} {a b c a' b' c' : Value} (h1 : V φ a a') (h2 : V φ b b') (h3 : V φ c c') : V φ (.tuple #[a, b, c]) (.tuple #[a', b', c']) :=
  .tuple _ _ rfl fun i v v' e e' => by
    match i with
    | 0 => simp at e e'; subst e; subst e'; exact h1
    | 1 => simp at e e'; subst e; subst e'; exact h2
    | 2 => simp at e e'; subst e; subst e'; exact h3
    | n + 3 => simp at e
theorem tuple4 {φ : Phi} {a b c d a' b' c' d' : Value} (h1 : V φ a a') (h2 : V φ b b') (h3 : V φ c c') (h4 : V φ d d') : V φ (.tuple #[a, b, c, d]) (.tuple #[a', b', c', d']) :=
  .tuple _ _ rfl fun i v v' e e' => by
    match i with
    | 0 => simp at e e'; subst e; subst e'; exact h1
    | 1 => simp at e e'; subst e; subst e'; exact h2
    | 2 => simp at e e'; subst e; subst e'; exact h3
    | 3 => simp at e e'; subst e; subst e'; exact h4
    | n + 4 => simp at e

/-- One result variable. -/
def RV (P : Program) (N : Nat) (rv : ResultVar) (t : Env) (H : AHeap) (v : Value) : Prop :=
  ∀ W φ w a, Sim W φ H w → EnvR φ N t a → ∃ v', (match rv with
    | .tmp t => pure (a.tmps.getD t undef)
    | .cell p t => do loadVar t (← asAddr (a.tmps.getD p undef)) : Sem Value).run P w = .ok v' w ∧ V φ v v'
theorem rv_tmp {r : Nat} {v : Value} (hv : eget t r = some v) : RV P N (.tmp r) t H v := by
  intro W φ w a hs he
  obtain ⟨v', h1, h2⟩ := he.get r v hv
  exact ⟨v', by simp [h1], h2⟩
theorem rv_cell1 {p T i o : Nat} {v : Value} (hp : eget t p = some (.pointer (some ⟨i, o, none⟩))) (hT : ∀ w, (isAgg T).run P w = .ok false w) (hc : hcell H i o = some v) : RV P N (.cell p T) t H v := by
  intro W φ w a hs he
  obtain ⟨u, h1, h2⟩ := he.get p _ hp
  obtain ⟨L, hL, rfl⟩ := h2.inv_ptr
  obtain ⟨v', h3, h4⟩ := cell_ok hs hL hc
  exact ⟨v', by simp [h1, asAddr, loadVar, hT, h3], h4⟩
theorem rv_cell {p T i o n : Nat} {vs : List Value} (hp : eget t p = some (.pointer (some ⟨i, o, none⟩))) (hT : ∀ w, (isAgg T).run P w = .ok true w) (hn : ∀ w, (sizeOf T).run P w = .ok n w)
    (hlen : vs.length = n) (hc : ∀ (j : Nat) v, vs[j]? = some v → hcell H i (o + j) = some v) : RV P N (.cell p T) t H (.agg vs.toArray) := by
  intro W φ w a hs he
  obtain ⟨u, h1, h2⟩ := he.get p _ hp
  obtain ⟨L, hL, rfl⟩ := h2.inv_ptr
  obtain ⟨vs', k1, k2, k3⟩ := cells_ok (P := P) hs hL hc
  rw [hlen] at k1
  exact ⟨.agg vs'.toArray, by simp [h1, asAddr, loadVar, hT, hn, k1], .agg _ _ (by simp [k2]) (fun j v v' e e' => k3 j v v' (by simpa using e) (by simpa using e'))⟩
theorem res1 {r : ResultVar} {v : Value} (h : fn.results = #[r]) (hv : RV P N r t H v) : ResOk P N fn t H v := by
  intro W φ w a hs he
  obtain ⟨v', h1, h2⟩ := hv W φ w a hs he
  refine ⟨v', ?_, h2⟩
  cases r <;> simpa [results, h] using h1
theorem mapM_run2 {α β : Type} (f : α → Sem β) (a b : α) (w : World) (x y : β) (h1 : (f a).run P w = .ok x w) (h2 : (f b).run P w = .ok y w) : ((#[a, b] : Array α).mapM f).run P w = .ok #[x, y] w := by
  simp [h1, h2]
theorem res2 {r s : ResultVar} {v u : Value} (h : fn.results = #[r, s]) (hv : RV P N r t H v) (hu : RV P N s t H u) : ResOk P N fn t H (.tuple #[v, u]) := by
  intro W φ w a hs he
  obtain ⟨v', h1, h2⟩ := hv W φ w a hs he
  obtain ⟨u', h3, h4⟩ := hu W φ w a hs he
  refine ⟨.tuple #[v', u'], ?_, tuple2 h2 h4⟩
  unfold results
  rw [h, Sem.run_bind, mapM_run2 _ _ _ _ v' u' (by cases r <;> exact h1) (by cases s <;> exact h3)]
  rfl
theorem mapM_run3 {α β : Type} (f : α → Sem β) (a b c : α) (w : World) (x y z : β) (h1 : (f a).run P w = .ok x w) (h2 : (f b).run P w = .ok y w) (h3 : (f c).run P w = .ok z w) : ((#[a, b, c] : Array α).mapM f).run P w = .ok #[x, y, z] w := by
  simp [h1, h2, h3]
theorem res3 {r s q : ResultVar} {v u x : Value} (h : fn.results = #[r, s, q]) (hv : RV P N r t H v) (hu : RV P N s t H u) (hx : RV P N q t H x) : ResOk P N fn t H (.tuple #[v, u, x]) := by
  intro W φ w a hs he
  obtain ⟨v', h1, h2⟩ := hv W φ w a hs he
  obtain ⟨u', h3, h4⟩ := hu W φ w a hs he
  obtain ⟨x', h5, h6⟩ := hx W φ w a hs he
  refine ⟨.tuple #[v', u', x'], ?_, tuple3 h2 h4 h6⟩
  unfold results
  rw [h, Sem.run_bind, mapM_run3 _ _ _ _ _ v' u' x' (by cases r <;> exact h1) (by cases s <;> exact h3) (by cases q <;> exact h5)]
  rfl
theorem mapM_run4 {α β : Type} (f : α → Sem β) (a b c d : α) (w : World) (x y z u : β) (h1 : (f a).run P w = .ok x w) (h2 : (f b).run P w = .ok y w) (h3 : (f c).run P w = .ok z w) (h4 : (f d).run P w = .ok u w) : ((#[a, b, c, d] : Array α).mapM f).run P w = .ok #[x, y, z, u] w := by
  simp [h1, h2, h3, h4]
theorem res4 {r s q p : ResultVar} {v u x y : Value} (h : fn.results = #[r, s, q, p]) (hv : RV P N r t H v) (hu : RV P N s t H u) (hx : RV P N q t H x) (hy : RV P N p t H y) : ResOk P N fn t H (.tuple #[v, u, x, y]) := by
  intro W φ w a hs he
  obtain ⟨v', h1, h2⟩ := hv W φ w a hs he
  obtain ⟨u', h3, h4⟩ := hu W φ w a hs he
  obtain ⟨x', h5, h6⟩ := hx W φ w a hs he
  obtain ⟨y', h7, h8⟩ := hy W φ w a hs he
  refine ⟨.tuple #[v', u', x', y'], ?_, tuple4 h2 h4 h6 h8⟩
  unfold results
  rw [h, Sem.run_bind, mapM_run4 _ _ _ _ _ _ v' u' x' y' (by cases r <;> exact h1) (by cases s <;> exact h3) (by cases q <;> exact h5) (by cases p <;> exact h7)]
  rfl
end res

/-! ### An operation that calls -/
section call
variable {P : Program} {N : Nat} {t : Env} {H H' : AHeap} {d : Option Tmp} {ty : TypeId} {pos : String} {af : Array Edge} {g : Option (Nat × Bool)}

theorem args_ok {x : List Operand} {vs : List Value} (h : x.map (aEv t) = vs.map some) {φ : Phi} {a : Act} (he : EnvR φ N t a) : VA φ vs (x.toArray.map a.eval) :=
  ⟨by simp [mapM_len h], fun i v v' e e' => mapM_ok h he i v v' e (by simpa using e')⟩

theorem o_call {f : FuncId} {x : List Operand} {T : Array TypeId} {vs : List Value} {v : Value} (hx : x.map (aEv t) = vs.map some) (hf : ∀ args w, (callFunc f args).run P w = .ok (.enter f args) w)
    (h : ACall P f vs H v H') : OpOk P N ⟨d, .call { callee := .value (.func f), args := x.toArray, argTypes := T }, ty, pos, af, g⟩ t H v H' := by
  intro W φ w a hs he
  have hrun : (execOp a.eval ⟨d, .call { callee := .value (.func f), args := x.toArray, argTypes := T }, ty, pos, af, g⟩).run P w = .ok (.enter f (x.toArray.map a.eval)) w := by
    simp [execOp, resolve, Act.eval, Deferred.ofValue, invoke, hf]
  unfold Does
  rw [hrun]
  exact (h W φ w _ hs (args_ok hx he)).mono fun e w' ⟨v', φ', h1, h2, h3, h4⟩ => ⟨v', h1, φ', h2, h3, h4⟩

/-- A call of a function value. -/
theorem o_callV {y : Operand} {f : FuncId} {fs cs : Array Value} {x : List Operand} {T : Array TypeId} {vs : List Value} {v : Value} (hy : aEv t y = some (.func (.func f) fs cs)) (hx : x.map (aEv t) = vs.map some)
    (hf : ∀ args w, (callFunc f args).run P w = .ok (.enter f args) w)
    (h : ACall P f (fs.toList ++ vs ++ cs.toList) H v H') : OpOk P N ⟨d, .call { callee := .value y, args := x.toArray, argTypes := T }, ty, pos, af, g⟩ t H v H' := by
  intro W φ w a hs he
  obtain ⟨fs', cs', e, h1, h2, h3, h4⟩ := (ev_ok he hy).inv_func
  have hrun : (execOp a.eval ⟨d, .call { callee := .value y, args := x.toArray, argTypes := T }, ty, pos, af, g⟩).run P w = .ok (.enter f (fs' ++ x.toArray.map a.eval ++ cs')) w := by
    simp [execOp, resolve, e, Deferred.ofValue, invoke, hf]
  have hva := args_ok hx he
  unfold Does
  rw [hrun]
  refine (h W φ w _ hs ⟨?_, ?_⟩).mono fun e w' ⟨v', φ', h1, h2, h3, h4⟩ => ⟨v', h1, φ', h2, h3, h4⟩
  · have := hva.size; simp only [Array.size_append, List.length_append, Array.length_toList] at *; omega
  · intro i u u' e1 e2
    rw [List.append_assoc] at e1
    rw [Array.append_assoc] at e2
    rcases Nat.lt_or_ge i fs.size with hi | hi
    · rw [List.getElem?_append_left (by simpa using hi)] at e1
      rw [Array.getElem?_append_left (by omega)] at e2
      exact h3 i u u' (by simpa using e1) e2
    · rw [List.getElem?_append_right (by simpa using hi)] at e1
      rw [Array.getElem?_append_right (by omega), ← h1] at e2
      simp only [Array.length_toList] at e1
      have hsz := hva.size
      rcases Nat.lt_or_ge (i - fs.size) vs.length with hj | hj
      · rw [List.getElem?_append_left hj] at e1
        rw [Array.getElem?_append_left (by omega)] at e2
        exact hva.get _ u u' e1 e2
      · rw [List.getElem?_append_right hj] at e1
        rw [Array.getElem?_append_right (by omega), hsz] at e2
        exact h4 _ u u' (by simpa using e1) e2
end call

end Go.Proofs.Ytocaepkkaihiiaa.Am
