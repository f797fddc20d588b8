/-
  The entry of a law: whatever the arguments, the call returns true and leaves memory as it was. No condition.
-/
import Derived.Test.YtocaepkkaihiiaaAm10
import Derived.SizedLaws
import Derived.RowKit3
namespace Go.Proofs.Ytocaepkkaihiiaa.Am
open Go Go.RowKit Go.ChangeShapes Go.WideShapes
set_option linter.unusedVariables false
set_option linter.unusedSimpArgs false

variable {K : Type} {enc : TypeId × Value → K} {P : Program}

def argOk (P : Program) (H : AHeap) (k : Nat) (t : TypeId) (v : Value) : Prop :=
  (∃ acs, v = .agg acs.toArray ∧ aok P H k t acs ∧ ((∃ fs, P.underlying t = some (.struct fs)) ∨ ∃ n e, P.underlying t = some (.array n e))) ∨ (aok P H k t [v] ∧ (∀ fs, P.underlying t ≠ some (.struct fs)) ∧ ∀ n e, P.underlying t ≠ some (.array n e))
def argsOk (P : Program) (H : AHeap) (k : Nat) : List TypeId → List Value → Prop
  | [], [] => True
  | t :: ts, v :: vs => argOk P H k t v ∧ argsOk P H k ts vs
  | _, _ => False
theorem argOk_more {H l : AHeap} {k : Nat} {t : TypeId} {v : Value} (h : argOk P H k t v) : argOk P (H ++ l) k t v := by
  rcases h with ⟨acs, h1, h2, h3⟩ | ⟨h1, h2⟩
  · exact .inl ⟨acs, h1, aok_more h2, h3⟩
  · exact .inr ⟨aok_more h1, h2⟩

theorem entV {W : World} {k : Nat} {t : TypeId} {v : Value} {d : DataW K} {ps : List MemPlace} {b : Nat} (hp : plainT P k t = true) (hv : Value.okWide P W .any b t v) (h : DataW.Trod enc P W 0 (fun _ => true) true t v d ps) :
    ∀ φ H, Sim W φ H W → AllRo H → ∃ φ' l av, Got W φ H φ' l ∧ V φ' av v ∧ argOk P (H ++ l) k t av := by
  intro φ H hs hr
  obtain ⟨fuel, h⟩ := h
  obtain ⟨φ', l, acs, g, hn, hV, hk⟩ := ent k t fuel _ _ hp h φ H hs hr
  have agg : (∃ cs, v = .agg cs) → ((∃ fs, P.underlying t = some (.struct fs)) ∨ ∃ n e, P.underlying t = some (.array n e)) → ∃ φ' l av, Got W φ H φ' l ∧ V φ' av v ∧ argOk P (H ++ l) k t av := by
    rintro ⟨cs, rfl⟩ ht
    have hn' : acs.length = cs.size := by simpa [Value.cells] using hn
    exact ⟨φ', l, .agg acs.toArray, g, .agg _ _ (by simpa using hn') (fun i u u' e e' => hV i u u' (by simpa using e) (by simpa [Value.cells] using e')), .inl ⟨acs, rfl, hk, ht⟩⟩
  have one : (∀ cs, v ≠ .agg cs) → (∀ fs, P.underlying t ≠ some (.struct fs)) → (∀ n e, P.underlying t ≠ some (.array n e)) → ∃ φ' l av, Got W φ H φ' l ∧ V φ' av v ∧ argOk P (H ++ l) k t av := by
    intro hv h1 h2
    have hc : v.cells.toList = [v] := by
      cases v <;> first | rfl | exact absurd rfl (hv _)
    rw [hc] at hn hV
    match acs, hn with
    | [a], _ => exact ⟨φ', l, a, g, hV 0 a v rfl rfl, .inr ⟨hk, h1, h2⟩⟩
  cases k with
  | zero => simp [plainT] at hp
  | succ k =>
    unfold plainT at hp
    split at hp <;> rename_i hu <;> try (cases hp; done)
    · obtain ⟨b, rfl⟩ := okWide_bool hu hv
      exact one (fun _ h => nomatch h) (fun _ h => by rw [hu] at h; cases h) (fun _ _ h => by rw [hu] at h; cases h)
    · obtain ⟨b, rfl⟩ := okWide_int hu hv
      exact one (fun _ h => nomatch h) (fun _ h => by rw [hu] at h; cases h) (fun _ _ h => by rw [hu] at h; cases h)
    · obtain ⟨b, rfl⟩ := okWide_string hu hv
      exact one (fun _ h => nomatch h) (fun _ h => by rw [hu] at h; cases h) (fun _ _ h => by rw [hu] at h; cases h)
    · obtain ⟨_, _, _, rfl⟩ := okWide_slice hu hv
      exact one (fun _ h => nomatch h) (fun _ h => by rw [hu] at h; cases h) (fun _ _ h => by rw [hu] at h; cases h)
    · obtain ⟨cs, rfl, _⟩ := okWide_struct hu hv
      exact agg ⟨_, rfl⟩ (.inl ⟨_, hu⟩)
    · unfold Value.okWide at hv
      rw [hu] at hv
      obtain ⟨cs, rfl, _⟩ := hv
      exact agg ⟨_, rfl⟩ (.inr ⟨_, _, hu⟩)

theorem entAll {W : World} {k : Nat} {b : Nat} : ∀ (ts : List TypeId) (vs : List Value) (ds : List (DataW K)) (ps : List MemPlace), ts.all (plainT P k) = true → (∀ (j : Nat) t v, ts[j]? = some t → vs[j]? = some v → Value.okWide P W .any b t v) →
    DataW.TrodAll enc P W 0 (fun _ => true) true ts vs ds ps → ∀ φ H, Sim W φ H W → AllRo H → ∃ φ' l avs, Got W φ H φ' l ∧ avs.length = vs.length ∧ (∀ (j : Nat) a v, avs[j]? = some a → vs[j]? = some v → V φ' a v) ∧ argsOk P (H ++ l) k ts avs := by
  intro ts
  induction ts with
  | nil =>
    intro vs ds ps _ _ h φ H hs hr
    obtain ⟨rfl, rfl, rfl⟩ := trodAll_none' h
    exact ⟨φ, [], [], ⟨fun _ _ h => h, by rw [List.append_nil]; exact hs, by rw [List.append_nil]; exact hr⟩, rfl, fun j a v h => by simp at h, trivial⟩
  | cons t ts ih =>
    intro vs ds ps hp hv h φ H hs hr
    obtain ⟨v, vs, d, ds, p, q, rfl, rfl, rfl, h1, h2⟩ := trodAll_cons h
    simp only [List.all_cons, Bool.and_eq_true] at hp
    obtain ⟨φ1, l1, a1, g1, v1, k1⟩ := entV hp.1 (hv 0 t v rfl rfl) h1 φ H hs hr
    obtain ⟨φ2, l2, as, g2, n2, v2, k2⟩ := ih vs ds q hp.2 (fun j t' v' e e' => hv (j + 1) t' v' (by simpa using e) (by simpa using e')) h2 φ1 (H ++ l1) g1.sim g1.ro
    refine ⟨φ2, l1 ++ l2, a1 :: as, ⟨fun i L h => g2.mono i L (g1.mono i L h), by rw [← List.append_assoc]; exact g2.sim, by rw [← List.append_assoc]; exact g2.ro⟩, by simp [n2], fun j a v e e' => ?_, ?_⟩
    · cases j with
      | zero => simp at e e'; subst e e'; exact v1.mono g2.mono
      | succ j => exact v2 j a v (by simpa using e) (by simpa using e')
    · rw [← List.append_assoc]; exact ⟨argOk_more k1, k2⟩
 where
  trodAll_none' {W : World} {vs : List Value} {ds : List (DataW K)} {ps : List MemPlace} (h : DataW.TrodAll enc P W 0 (fun _ => true) true [] vs ds ps) : vs = [] ∧ ds = [] ∧ ps = [] := by
    cases vs <;> cases ds <;> simp [DataW.TrodAll] at h
    exact ⟨rfl, rfl, h⟩

theorem trodAll_below {W W' : World} (hl : laidOutB P = true) (hb : Below W.heap.size W W') : ∀ (ts : List TypeId) (vs : List Value) (ds : List (DataW K)) (ps : List MemPlace), (∀ t ∈ ts, P.readableRec t = true ∧ t < P.types.size) →
    DataW.TrodAll enc P W 0 (fun _ => true) true ts vs ds ps → (∀ x ∈ ps, x.block < W.heap.size) → DataW.TrodAll enc P W' 0 (fun b => decide (b < W.heap.size)) true ts vs ds ps := by
  intro ts
  induction ts with
  | nil => intro vs ds ps _ h _; cases vs <;> cases ds <;> simp [DataW.TrodAll] at h ⊢; exact h
  | cons t ts ih =>
    intro vs ds ps hr h hlt
    obtain ⟨v, vs, d, ds, p, q, rfl, rfl, rfl, h1, h2⟩ := trodAll_cons h
    exact ⟨p, q, Below.trod hl (hr t (List.mem_cons_self ..)).1 (hr t (List.mem_cons_self ..)).2 h1 hb (fun x hx => hlt x (List.mem_append_left _ hx)),
      ih vs ds q (fun t' h' => hr t' (List.mem_cons_of_mem _ h')) h2 (fun x hx => hlt x (List.mem_append_right _ hx)), rfl⟩

theorem trodAll_len {W : World} : ∀ {ts : List TypeId} {vs : List Value} {ds : List (DataW K)} {ps : List MemPlace}, DataW.TrodAll enc P W 0 (fun _ => true) true ts vs ds ps → ds.length = ts.length := by
  intro ts
  induction ts with
  | nil => intro vs ds ps h; cases vs <;> cases ds <;> simp_all [DataW.TrodAll]
  | cons t ts ih =>
    intro vs ds ps h
    obtain ⟨v, vs, d, ds, p, q, rfl, rfl, rfl, h1, h2⟩ := trodAll_cons h
    simp [ih h2]

theorem law_post {f : FuncId} {fn : Func} {s : ChangeSpec} {W : World} {base k : Nat} {args : Array Value} {ds gs : List (DataW K)} {before : List MemPlace} {tb : TypeId}
    (hl : laidOutB P = true) (hp : fn.params.toList.all (fun t => plainT P k t && P.readableRec t && decide (t < P.types.size)) = true) (hres : fn.resultTypes.toList = [tb]) (hb : P.underlying tb = some .bool) (hvars : s.vars = [])
    (hspec : ∀ (K : Type) (ds : List (DataW K)), ds.length = fn.params.toList.length → (s.fn K ds).results = [.lit (.bool true)] ∧ (s.fn K ds).args = ds ∧ (s.fn K ds).vars = [])
    (hcall : ∀ H avs, AllRo H → argsOk P H k fn.params.toList avs → ∃ H', ACall P f avs H (.bool true) H')
    (hval : ∀ (j : Nat) t v, fn.params[j]? = some t → args[j]? = some v → Value.okWide P W .any base t v) (hW : DataW.Whole enc P fn.params.toList s.vars false W args.toList ds gs before) :
    Calls P f args W fun e W' => ∃ v, e = .returned v ∧ s.post enc P fn false true false false W args v W' := by
  have hW' := hW
  obtain ⟨p, q, hA, hV, rfl, hfz, hnd⟩ := hW
  rw [hvars] at hV
  obtain ⟨rfl, rfl⟩ := trodVars_none hV
  simp only [List.all_eq_true, Bool.and_eq_true, decide_eq_true_eq] at hp
  obtain ⟨φ, l, avs, g, hn, hv, hk⟩ := entAll fn.params.toList args.toList ds p (by rw [List.all_eq_true]; exact fun t ht => (hp t ht).1.1) (fun j t v e e' => hval j t v (by simpa using e) (by simpa using e')) hA _ [] (Sim.nil W) (fun i h => absurd h (Nat.not_lt_zero _))
  rw [List.nil_append] at hk
  have gs' := g.sim
  have gr := g.ro
  rw [List.nil_append] at gs' gr
  obtain ⟨H', hc⟩ := hcall l avs gr hk
  refine (hc W φ W args gs' ⟨by simpa using hn.symm, fun j a v e e' => hv j a v e (by simpa using e')⟩).mono fun e W' h => ?_
  obtain ⟨v', φ', rfl, hs', hv', _⟩ := h
  obtain rfl := V.of_flat (.bool true) hv'
  have hlen := trodAll_len hA
  obtain ⟨e1, e2, e3⟩ := hspec K (ds ++ []) (by simpa using hlen)
  refine ⟨_, rfl, ds, [], p ++ [], [], p, [], hW', ?_, ?_, ?_, hs'.base.frame _, fun h => by cases h⟩
  · rw [e1, hres]
    have : (Value.bool true).resultList fn.resultTypes.size = [.bool true] := by
      have : fn.resultTypes.size = 1 := by rw [← Array.length_toList, hres]; rfl
      rw [this]; rfl
    rw [this]
    exact trodAll_mk1 (shut_bool hb true)
  · rw [e2, List.append_nil]
    exact trodAll_below hl hs'.base _ _ _ _ (fun t ht => ⟨(hp t ht).1.2, (hp t ht).2⟩) hA (fun x hx => hW'.lt x (List.mem_append_left _ hx))
  · rw [e3, hvars]; rfl
end Go.Proofs.Ytocaepkkaihiiaa.Am
