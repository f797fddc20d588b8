/-
  An abstract machine over this model's programs, ninth part, second half: one walk of the written order serves every order. No condition.
-/
import Derived.Test.YtocaepkkaihiiaaAm8
namespace Go.Proofs.Ytocaepkkaihiiaa.Am
open Go Go.RowKit
set_option linter.unusedVariables false
set_option linter.unusedSimpArgs false

def cutφ (φ : Phi) (n : Nat) : Phi := fun i => if i < n then φ i else none
theorem cutφ_some {φ : Phi} {n i : Nat} {L : Loc} (h : cutφ φ n i = some L) : i < n ∧ φ i = some L := by
  unfold cutφ at h; split at h
  · exact ⟨‹_›, h⟩
  · cases h
theorem cutφ_mono {φ φ' : Phi} {n m : Nat} (hn : n ≤ m) (hm : ∀ i L, φ i = some L → i < n → φ' i = some L) : ∀ i L, cutφ φ n i = some L → cutφ φ' m i = some L := by
  intro i L h
  obtain ⟨h1, h2⟩ := cutφ_some h
  unfold cutφ; rw [if_pos (by omega)]; exact hm i L h2 h1
theorem cutφ_le {φ : Phi} {n : Nat} : ∀ i L, cutφ φ n i = some L → φ i = some L := fun i L h => (cutφ_some h).2

def OwnF (φ : Phi) (c : Nat → AObj) (b o : Nat) : Prop := ∃ i L, φ i = some L ∧ (c i).isRow = true ∧ L.block = b ∧ L.off ≤ o ∧ o < L.off + L.ext

/-- The state in the midst of a statement: which operations have been carried out ('S'), which writers (those before place s). -/
structure RInv (N : Nat) (l : List Oper) (t : Env) (H : AHeap) (es : List Ev) (W : World) (φs : Phi) (ws : World) (dfr : List Deferred) (S : Nat → Prop) (a : Act) (w : World) (φ : Phi) (c : Nat → AObj) (s : Nat) : Prop where
  defers : a.defers = dfr
  size : a.tmps.size = N
  wr : ∀ u e, es[u]? = some e → e.kd = .write → (S u ↔ u < s)
  sle : s ≤ l.length
  made : ∀ j x, S j → dAt l j = some x → (∀ j', j < j' → S j' → dAt l j' ≠ some x) → ∃ v', a.tmps[x]? = some v' ∧ V (cutφ φ (hAt H es (j + 1)).length) (vAt es j) v'
  kept : ∀ x v, eget t x = some v → (∀ j', S j' → dAt l j' ≠ some x) → ∃ v', a.tmps[x]? = some v' ∧ V (cutφ φ H.length) v v'
  dom : ∀ i L, φ i = some L → i < H.length ∨ ∃ j, S j ∧ (hAt H es j).length ≤ i ∧ i < (hAt H es (j + 1)).length
  c1 : ∀ i L, φ i = some L → i < (hAt H es s).length → c i = hget (hAt H es s) i
  c2 : ∀ i L j, φ i = some L → (hAt H es s).length ≤ i → S j → (hAt H es j).length ≤ i → i < (hAt H es (j + 1)).length → c i = hget (hAt H es (j + 1)) i
  obj1 : ∀ i L, φ i = some L → i < (hAt H es s).length → ObjOk W.heap.size (cutφ φ (hAt H es s).length) L (c i) w
  obj2 : ∀ i L j, φ i = some L → (hAt H es s).length ≤ i → S j → (hAt H es j).length ≤ i → i < (hAt H es (j + 1)).length → ObjOk W.heap.size (cutφ φ (hAt H es (j + 1)).length) L (c i) w
  disj : ∀ i j L M, i ≠ j → φ i = some L → φ j = some M → (c i).isRow = true → (c j).isRow = true → Apart L M
  mdisj : ∀ i j L M, i ≠ j → φ i = some L → φ j = some M → (c i).isMap = true → (c j).isMap = true → L.block ≠ M.block
  base : Below W.heap.size W w
  agree : ∀ i, i < H.length → φ i = φs i
  wsize : ws.heap.size ≤ w.heap.size
  cells : ∀ b o, b < ws.heap.size → ¬ Owned φs H b o → w.cell? ⟨b, o, none⟩ = ws.cell? ⟨b, o, none⟩
  frozen : ∀ b o, b < ws.heap.size → ¬ Owned φs H b o → w.frozen? ⟨b, o, none⟩ = ws.frozen? ⟨b, o, none⟩
  own : ∀ b o, b < ws.heap.size → OwnF φ c b o → Owned φs H b o

theorem ObjOk.mono {B : Nat} {φ φ' : Phi} {L : Loc} {o : AObj} {w : World} (hm : ∀ i L, φ i = some L → φ' i = some L) (h : ObjOk B φ L o w) : ObjOk B φ' L o w := by
  cases o with
  | dead => trivial
  | row ro cells => exact ⟨h.fits, fun j u hu => let ⟨u', k1, k2⟩ := h.reads j u hu; ⟨u', k1, k2.mono hm⟩, h.old, h.own, h.there⟩
  | map es => exact h
theorem ObjOk.alloc {B : Nat} {φ : Phi} {L : Loc} {o : AObj} {w : World} (h : ObjOk B φ L o w) (cs : Array Value) (T : TypeId) : ObjOk B φ L o (w.alloc (.cells cs T)) := by
  have hold : ∀ (b q : Nat), b < w.heap.size → (w.alloc (.cells cs T)).cell? ⟨b, q, none⟩ = w.cell? ⟨b, q, none⟩ := fun b q hb => World.cell?_alloc_lt _ _ _ hb
  have holdf : ∀ (b q : Nat), b < w.heap.size → (w.alloc (.cells cs T)).frozen? ⟨b, q, none⟩ = w.frozen? ⟨b, q, none⟩ := fun b q hb => World.frozen?_alloc_old _ _ _ (Nat.ne_of_lt hb)
  cases o with
  | dead => trivial
  | row ro cells =>
    refine ⟨h.fits, fun j u hu => ?_, h.old, fun hr => ⟨(h.own hr).1, by have := (h.own hr).2; simp; omega⟩, fun hr j hj => ?_⟩
    · obtain ⟨u', h1, h2⟩ := h.reads j u hu
      exact ⟨u', by rw [hold _ _ (World.block_lt_of_cell? _ _ h1)]; exact h1, h2⟩
    · rw [hold _ _ (h.own hr).2, holdf _ _ (h.own hr).2]; exact h.there hr j hj
  | map es =>
    exact ⟨h.off, h.ext, ⟨h.own.1, by have := h.own.2; simp; omega⟩, h.flat, by rw [(MapKept.heap_alloc w _).2 _ h.own.2]; exact h.holds⟩

section thm
variable {P : Program} {N : Nat} {l : List Oper} {t : Env} {H : AHeap} {es : List Ev} {W : World} {φs : Phi} {ws : World} {dfr : List Deferred}

theorem hAt_at {k : Nat} {e : Ev} (h : es[k]? = some e) : hAt H es (k + 1) = e.H' := by simp [hAt, h]

/-- what each operation of the written order does to memory -/
structure Facts (P : Program) (N : Nat) (l : List Oper) (t : Env) (H : AHeap) (es : List Ev) : Prop where
  len : es.length = l.length
  at_ : ∀ (k : Nat) o, l[k]? = some o → ∃ e, es[k]? = some e ∧ e.H = hAt H es k ∧ (∀ d, o.dst = some d → d < N) ∧ (∀ cs b, o.op ≠ .select cs b) ∧ OpEv P N l.toArray o (restr (o.looksAt l.toArray) (eAt l es t k)) e
  back : ∀ (k : Nat) o, l[k]? = some o → ∀ e ∈ o.after.toList, Region.binds .any e = true → e.on < k
  pair : ∀ j k oj ok, j < k → l[j]? = some oj → l[k]? = some ok → j ∈ (befAll l).getD k [] ∨ (oj.apart l.toArray ok = true ∧ ∀ e f, es[j]? = some e → es[k]? = some f → ¬ (e.kd = .write ∧ f.kd = .write))
  dyn : dynOk l es

theorem Facts.mk' (htr : Trace P N l.toArray l t H es) (hst : staticOk l l.toArray (es.map (·.kd.isWrite)) = true) (hdyn : dynOk l es) : Facts P N l t H es := by
  obtain ⟨h1, h2⟩ := trace_at l t H es htr
  unfold staticOk at hst
  simp only [List.all_eq_true, List.mem_range, Bool.and_eq_true] at hst
  refine ⟨h1, h2, fun k o ho e he hb => ?_, fun j k oj ok hjk hoj hok => ?_, hdyn⟩
  · have hk := (List.getElem?_eq_some_iff.1 ho).1
    have := (hst k hk).1 e (by rw [List.getD, ho]; simpa using he)
    rw [hb] at this
    simp at this
    simpa using this
  · have hk := (List.getElem?_eq_some_iff.1 hok).1
    have := (hst k hk).2 j hjk
    rw [Bool.or_eq_true] at this
    rcases this with h | h
    · exact .inl (by simpa using h)
    · rw [Bool.and_eq_true] at h
      refine .inr ⟨by have := h.1; rw [List.getD, List.getD, hoj, hok] at this; exact this, fun e f he hf ⟨h3, h4⟩ => ?_⟩
      have h5 := h.2
      simp only [List.getD, List.getElem?_map, he, hf, Option.map_some, Option.getD_some, h3, h4, Kd.isWrite] at h5
      simp at h5

variable (F : Facts P N l t H es)
include F

theorem Facts.grow (k : Nat) : (hAt H es k).length ≤ (hAt H es (k + 1)).length ∨ l.length ≤ k := by
  rcases Nat.lt_or_ge k l.length with h | h
  · obtain ⟨e, h1, h2, _, _, h5⟩ := F.at_ k _ (List.getElem?_eq_getElem h)
    refine .inl ?_
    rw [hAt_at h1, ← h2]
    unfold OpEv at h5
    cases hk : e.kd <;> rw [hk] at h5 <;> dsimp only at h5
    · rw [h5.2.2]; omega
    · rw [h5.2.2]; omega
    · rw [h5.2.2.2]; omega
    · rw [h5.2.2]; simp
    · exact h5.2.2
  · exact .inr h
theorem Facts.mono {j k : Nat} (hjk : j ≤ k) (hk : k ≤ l.length) : (hAt H es j).length ≤ (hAt H es k).length := by
  induction k with
  | zero => obtain rfl : j = 0 := by omega
            omega
  | succ k ih =>
    by_cases h : j = k + 1
    · subst h; omega
    · rcases F.grow k with h' | h'
      · exact Nat.le_trans (ih (by omega) (by omega)) h'
      · omega

/-- from one stage to a later one, when no writer between touches it -/
theorem Facts.chain {i j k : Nat} (hjk : j ≤ k) (hk : k ≤ l.length) (hi : i < (hAt H es j).length)
    (hw : ∀ u e, es[u]? = some e → e.kd = .write → j ≤ u → u < k → hget e.H' i = hget e.H i) : hget (hAt H es k) i = hget (hAt H es j) i := by
  induction k with
  | zero => obtain rfl : j = 0 := by omega
            rfl
  | succ k ih =>
    by_cases h : j = k + 1
    · subst h; rfl
    · have hkl : k < l.length := by omega
      obtain ⟨e, h1, h2, _, _, h5⟩ := F.at_ k _ (List.getElem?_eq_getElem hkl)
      rw [← ih (by omega) (by omega) (fun u e h3 h4 h5 h6 => hw u e h3 h4 h5 (by omega)), hAt_at h1, ← h2]
      have hik : i < e.H.length := by rw [h2]; exact Nat.lt_of_lt_of_le hi (F.mono (by omega) (by omega))
      unfold OpEv at h5
      cases hkd : e.kd <;> rw [hkd] at h5 <;> dsimp only at h5
      · rw [h5.2.2]
      · rw [h5.2.2]
      · rw [h5.2.2.2]
      · rw [h5.2.2]; exact hget_append_lt hik
      · exact hw k e h1 hkd (by omega) (by omega)


omit F in
theorem put_get {a : Act} {d : Option Tmp} {v' : Value} {x : Nat} (h : d ≠ some x) : (a.put d v').tmps[x]? = a.tmps[x]? := by
  cases d with
  | none => rfl
  | some d => simp only [Act.put]; rw [Array.getElem?_setIfInBounds_ne (fun he => h (by rw [he]))]
omit F in
theorem put_size {a : Act} {d : Option Tmp} {v' : Value} : (a.put d v').tmps.size = a.tmps.size := by cases d <;> simp [Act.put]
omit F in
theorem put_defers' {a : Act} {d : Option Tmp} {v' : Value} : (a.put d v').defers = a.defers := by cases d <;> simp [Act.put]

/-- operation k may be carried out: it has not been, and what its edges name has been -/
structure Ready (l : List Oper) (S : Nat → Prop) (k : Nat) (o : Oper) : Prop where
  op : l[k]? = some o
  not_ : ¬ S k
  edges : ∀ e ∈ o.after.toList, Region.binds .any e = true → S e.on
  closed : ∀ m o', S m → l[m]? = some o' → ∀ e ∈ o'.after.toList, Region.binds .any e = true → S e.on

variable {S : Nat → Prop} {k : Nat} {o : Oper}

theorem Ready.bef (R : Ready l S k o) (j : Nat) (hj : j ∈ (befAll l).getD k []) : S j := bef_listed R.closed F.back k o R.op R.edges j hj
theorem Ready.bef' (R : Ready l S k o) (j : Nat) (hS : S j) (hj : j < l.length) : k ∉ (befAll l).getD j [] := fun h =>
  R.not_ (bef_listed R.closed F.back j _ (List.getElem?_eq_getElem hj) (R.closed j _ hS (List.getElem?_eq_getElem hj)) k h)

theorem Ready.dst_later (R : Ready l S k o) {x j : Nat} (hx : x ∈ o.looksAt l.toArray) (hS : S j) (hkj : k < j) : dAt l j ≠ some x := by
  intro hd
  cases hj : l[j]? with
  | none => simp [dAt, hj] at hd
  | some oj =>
    simp [dAt, hj] at hd
    have hlt := (List.getElem?_eq_some_iff.1 hj).1
    rcases F.pair k j o oj hkj R.op hj with h | ⟨h, _⟩
    · exact R.bef' F j hS hlt h
    · exact (Oper.apart_spec h).2.2 x hd hx

theorem Ready.env (R : Ready l S k o) {a : Act} {w : World} {φ : Phi} {c : Nat → AObj} {s : Nat} (I : RInv N l t H es W φs ws dfr S a w φ c s) :
    EnvR (cutφ φ (hAt H es k).length) N (restr (o.looksAt l.toArray) (eAt l es t k)) a := by
  have hk := (List.getElem?_eq_some_iff.1 R.op).1
  refine ⟨I.size, fun x v e => ?_⟩
  obtain ⟨hx, hv⟩ := eget_restr e
  have hlater : ∀ j', S j' → k ≤ j' → dAt l j' ≠ some x := fun j' hS hkj => by
    by_cases he : k = j'
    · subst he; exact absurd hS R.not_
    · exact R.dst_later F hx hS (by omega)
  rcases eAt_get k hv with ⟨j, h1, h2, h3, h4⟩ | ⟨h1, h2⟩
  · have hj : l[j]? = some l[j] := List.getElem?_eq_getElem (by omega)
    have hd : l[j].dst = some x := by simpa [dAt, hj] using h2
    have hS : S j := by
      rcases F.pair j k _ o h1 hj R.op with h | ⟨h, _⟩
      · exact R.bef F j h
      · exact absurd hx ((Oper.apart_spec h).1 x hd)
    obtain ⟨v', k1, k2⟩ := I.made j x hS h2 (fun j' a b => by
      rcases Nat.lt_or_ge j' k with h | h
      · exact h4 j' a h
      · exact hlater j' b h)
    exact ⟨v', k1, by rw [h3]; exact k2.mono (cutφ_mono (F.mono (by omega) (by omega)) fun _ _ e _ => e)⟩
  · obtain ⟨v', k1, k2⟩ := I.kept x v h1 (fun j' b => by
      rcases Nat.lt_or_ge j' k with h | h
      · exact h2 j' h
      · exact hlater j' b h)
    exact ⟨v', k1, k2.mono (cutφ_mono (F.mono (Nat.zero_le k) (by omega)) fun _ _ e _ => e)⟩

/-- the frame behind operation k -/
theorem Ready.put (R : Ready l S k o) {a : Act} {w : World} {φ φ' : Phi} {c : Nat → AObj} {s : Nat} (I : RInv N l t H es W φs ws dfr S a w φ c s) (hm : ∀ i L, φ i = some L → φ' i = some L) {v' : Value}
    (hd : ∀ d, o.dst = some d → d < N) (hv : V (cutφ φ' (hAt H es (k + 1)).length) (vAt es k) v') :
    (∀ j x, (S j ∨ j = k) → dAt l j = some x → (∀ j', j < j' → (S j' ∨ j' = k) → dAt l j' ≠ some x) → ∃ u', (a.put o.dst v').tmps[x]? = some u' ∧ V (cutφ φ' (hAt H es (j + 1)).length) (vAt es j) u') ∧
    (∀ x v, eget t x = some v → (∀ j', (S j' ∨ j' = k) → dAt l j' ≠ some x) → ∃ u', (a.put o.dst v').tmps[x]? = some u' ∧ V (cutφ φ' H.length) v u') := by
  have hdk : dAt l k = o.dst := by simp [dAt, R.op]
  constructor
  · intro j x hS hx hno
    by_cases hjk : j = k
    · subst hjk
      rw [hdk] at hx
      refine ⟨v', ?_, hv⟩
      rw [hx]
      have : x < a.tmps.size := by rw [I.size]; exact hd x hx
      simp [Act.put, this]
    · have hSj : S j := by rcases hS with h | h; exact h; exact absurd h hjk
      have hne : o.dst ≠ some x := by
        intro he
        rcases Nat.lt_or_ge j k with h | h
        · exact hno k h (.inr rfl) (by rw [hdk]; exact he)
        · have hkj : k < j := by omega
          cases hj : l[j]? with
          | none => simp [dAt, hj] at hx
          | some oj =>
            have hlt := (List.getElem?_eq_some_iff.1 hj).1
            have hxj : oj.dst = some x := by simpa [dAt, hj] using hx
            rcases F.pair k j o oj hkj R.op hj with h | ⟨h, _⟩
            · exact R.bef' F j hSj hlt h
            · exact (Oper.apart_spec h).2.1 x he hxj
      obtain ⟨u', h1, h2⟩ := I.made j x hSj hx (fun j' a b => hno j' a (.inl b))
      exact ⟨u', by rw [put_get hne]; exact h1, h2.mono (cutφ_mono (Nat.le_refl _) fun i L e _ => hm i L e)⟩
  · intro x v hx hno
    obtain ⟨u', h1, h2⟩ := I.kept x v hx (fun j' b => hno j' (.inl b))
    exact ⟨u', by rw [put_get (by rw [← hdk]; exact hno k (.inr rfl))]; exact h1, h2.mono (cutφ_mono (Nat.le_refl _) fun i L e _ => hm i L e)⟩

omit F in
theorem RInv.obj {a : Act} {w : World} {φ : Phi} {c : Nat → AObj} {s : Nat} (F : Facts P N l t H es) (I : RInv N l t H es W φs ws dfr S a w φ c s) (i : Nat) (L : Loc) (hi : φ i = some L) : ObjOk W.heap.size φ L (c i) w := by
  rcases Nat.lt_or_ge i (hAt H es s).length with h | h
  · exact (I.obj1 i L hi h).mono cutφ_le
  · rcases I.dom i L hi with h' | ⟨j, h1, h2, h3⟩
    · have : H.length ≤ (hAt H es s).length := F.mono (Nat.zero_le s) I.sle
      omega
    · exact (I.obj2 i L j hi h h1 h2 h3).mono cutφ_le

/-- an operation that changes no memory -/
theorem Ready.same (R : Ready l S k o) {a : Act} {w : World} {φ : Phi} {c : Nat → AObj} {s : Nat} (I : RInv N l t H es W φs ws dfr S a w φ c s) {v' : Value} {e : Ev} (he : es[k]? = some e) (hkd : e.kd ≠ .write)
    (hH : hAt H es (k + 1) = hAt H es k) (hd : ∀ d, o.dst = some d → d < N) (hv : V (cutφ φ (hAt H es k).length) (vAt es k) v') :
    RInv N l t H es W φs ws dfr (fun j => S j ∨ j = k) (a.put o.dst v') w φ c s := by
  obtain ⟨h1, h2⟩ := R.put F I (fun _ _ e => e) (v' := v') hd (by rw [hH]; exact hv)
  exact { defers := put_defers'.trans I.defers, size := put_size.trans I.size
          wr := fun u f hu hf => ⟨fun h => by rcases h with h | rfl; exact (I.wr u f hu hf).1 h; rw [he] at hu; obtain rfl := Option.some.inj hu; exact absurd hf hkd, fun h => .inl ((I.wr u f hu hf).2 h)⟩
          sle := I.sle, made := h1, kept := h2
          dom := fun i L e => by rcases I.dom i L e with h | ⟨j, a, b⟩; exact .inl h; exact .inr ⟨j, .inl a, b⟩
          c1 := I.c1
          c2 := fun i L j e a b c d => by
            rcases b with b | rfl
            · exact I.c2 i L j e a b c d
            · rw [hH] at d; omega
          obj1 := I.obj1
          obj2 := fun i L j e a b c d => by
            rcases b with b | rfl
            · exact I.obj2 i L j e a b c d
            · rw [hH] at d; omega
          disj := I.disj, mdisj := I.mdisj, base := I.base, agree := I.agree, wsize := I.wsize, cells := I.cells, frozen := I.frozen, own := I.own }

theorem Ready.wanted (R : Ready l S k o) {a : Act} {w : World} {φ : Phi} {c : Nat → AObj} {s : Nat} (I : RInv N l t H es W φs ws dfr S a w φ c s) (h : Wants l.toArray o (restr (o.looksAt l.toArray) (eAt l es t k))) :
    Region.wanted o (yielded l.toArray a.tmps) = true := by
  unfold Wants at h
  cases hg : o.guard with
  | none => simp [Region.wanted, hg]
  | some g =>
    obtain ⟨j, want⟩ := g
    rw [hg] at h
    obtain ⟨d, h1, h2⟩ := h
    simp [Region.wanted, hg, yielded_ok (R.env F I) h1 h2]
theorem Ready.wantedNot (R : Ready l S k o) {a : Act} {w : World} {φ : Phi} {c : Nat → AObj} {s : Nat} (I : RInv N l t H es W φs ws dfr S a w φ c s) (h : WantsNot l.toArray o (restr (o.looksAt l.toArray) (eAt l es t k))) :
    Region.wanted o (yielded l.toArray a.tmps) = false := by
  unfold WantsNot at h
  cases hg : o.guard with
  | none => rw [hg] at h; exact h.elim
  | some g =>
    obtain ⟨j, want⟩ := g
    rw [hg] at h
    obtain ⟨d, h1, h2⟩ := h
    simpa [Region.wanted, hg] using yielded_no (R.env F I) h1 h2

/-- a cell that is read: memory as it is now has it -/
theorem Ready.readCell (R : Ready l S k o) {a : Act} {w : World} {φ : Phi} {c : Nat → AObj} {s : Nat} (I : RInv N l t H es W φs ws dfr S a w φ c s) {e : Ev} (he : es[k]? = some e) (heH : e.H = hAt H es k) {i : Nat} {L : Loc} (hi : φ i = some L) (hik : i < (hAt H es k).length)
    (hkd : e.kd ≠ .write) (hdyn : ∀ (u : Nat) (f : Ev), es[u]? = some f → f.kd = .write → unord (befAll l) k u → i < f.H.length → hget f.H' i = hget f.H i) : c i = hget (hAt H es k) i := by
  have hk := (List.getElem?_eq_some_iff.1 R.op).1
  have hA : ∀ x, x ≤ k → s ≤ x → i < (hAt H es x).length → hget (hAt H es k) i = hget (hAt H es x) i := fun x hx hsx hix =>
    F.chain hx (by omega) hix fun u f hu hf h1 h2 => by
      have hul : u < l.length := by rw [← F.len]; exact (List.getElem?_eq_some_iff.1 hu).1
      have e1 := List.getElem?_eq_getElem hul
      obtain ⟨f', g1, g2, _⟩ := F.at_ u _ e1
      rw [hu] at g1; obtain rfl := Option.some.inj g1
      refine hdyn u f hu hf ⟨fun h => ?_, fun h => ?_⟩ (by rw [g2]; exact Nat.lt_of_lt_of_le hix (F.mono h1 (by omega)))
      · have := bef_lt F.back u _ e1 k h; omega
      · have := (I.wr u f hu hf).1 (R.bef F u h); omega
  rcases Nat.lt_or_ge i (hAt H es s).length with his | his
  · rw [I.c1 i L hi his]
    rcases Nat.lt_or_ge k s with hks | hks
    · refine F.chain (Nat.le_of_lt hks) I.sle hik fun u f hu hf h1 h2 => ?_
      have hul : u < l.length := by rw [← F.len]; exact (List.getElem?_eq_some_iff.1 hu).1
      have e1 := List.getElem?_eq_getElem hul
      obtain ⟨f', g1, g2, _⟩ := F.at_ u _ e1
      rw [hu] at g1; obtain rfl := Option.some.inj g1
      have hSu : S u := (I.wr u f hu hf).2 h2
      have hku : u ≠ k := fun h => by subst h; rw [he] at hu; obtain rfl := Option.some.inj hu; exact hkd hf
      refine hdyn u f hu hf ⟨fun h => R.bef' F u hSu hul h, fun h => ?_⟩ (by rw [g2]; exact Nat.lt_of_lt_of_le hik (F.mono h1 (by omega)))
      have := bef_lt F.back k o R.op u h; omega
    · exact (hA s hks (Nat.le_refl _) his).symm
  · rcases I.dom i L hi with h | ⟨j, hj1, hj2, hj3⟩
    · have : H.length ≤ (hAt H es s).length := F.mono (Nat.zero_le s) I.sle
      omega
    · rw [I.c2 i L j hi his hj1 hj2 hj3]
      have hjl : j < l.length := by
        rcases Nat.lt_or_ge j l.length with h | h
        · exact h
        · have h4 : es[j]? = none := List.getElem?_eq_none (by rw [F.len]; exact h)
          rw [show hAt H es (j + 1) = H by simp [hAt, h4]] at hj3
          have : H.length ≤ (hAt H es s).length := F.mono (Nat.zero_le s) I.sle
          omega
      have hjk : j < k := by
        rcases Nat.lt_or_ge j k with h | h
        · exact h
        · have := F.mono h (by omega); omega
      have hsj : s ≤ j := by
        rcases Nat.lt_or_ge j s with h | h
        · have := F.mono (show j + 1 ≤ s by omega) I.sle; omega
        · exact h
      exact (hA (j + 1) (by omega) (by omega) hj3).symm

/-- a block is made -/
theorem Ready.made' (R : Ready l S k o) {a : Act} {w : World} {φ : Phi} {c : Nat → AObj} {s : Nat} (I : RInv N l t H es W φs ws dfr S a w φ c s) {e : Ev} {cells : List Value} (he : es[k]? = some e) (heH : e.H = hAt H es k) (hkd : e.kd = .alloc cells)
    (hH : e.H' = e.H ++ [.row false cells]) (hd : ∀ d, o.dst = some d → d < N) {cs : Array Value} {T : TypeId} {v' : Value} (hle : cells.length ≤ cs.size)
    (hcs : ∀ (j : Nat) u u', cells[j]? = some u → cs[j]? = some u' → V (cutφ φ (hAt H es k).length) u u')
    (hv : ∀ φ' : Phi, φ' e.H.length = some ⟨w.heap.size, 0, cs.size⟩ → (∀ i L, cutφ φ (hAt H es k).length i = some L → φ' i = some L) → V φ' e.v v')
    (hdyn : ∀ (u : Nat) (f : Ev), es[u]? = some f → f.kd = .write → unord (befAll l) k u → k < u → hget f.H' e.H.length = hget f.H e.H.length) :
    ∃ φ' c', RInv N l t H es W φs ws dfr (fun j => S j ∨ j = k) (a.put o.dst v') (w.alloc (.cells cs T)) φ' c' s := by
  have hk := (List.getElem?_eq_some_iff.1 R.op).1
  have hn : (hAt H es (k + 1)).length = (hAt H es k).length + 1 := by rw [hAt_at he, hH, heH]; simp
  have hnew : φ (hAt H es k).length = none := by
    cases hφ : φ (hAt H es k).length with
    | none => rfl
    | some L =>
      rcases I.dom _ L hφ with h | ⟨j, hj1, hj2, hj3⟩
      · have : H.length ≤ (hAt H es k).length := F.mono (Nat.zero_le k) (by omega)
        omega
      · have hjk : j ≠ k := fun h => by subst h; exact R.not_ hj1
        rcases Nat.lt_or_ge j k with h | h
        · have := F.mono (show j + 1 ≤ k by omega) (by omega); omega
        · rcases Nat.lt_or_ge j l.length with hjl | hjl
          · have := F.mono (show k + 1 ≤ j by omega) (by omega); omega
          · have h4 : es[j]? = none := List.getElem?_eq_none (by rw [F.len]; exact hjl)
            rw [show hAt H es (j + 1) = H by simp [hAt, h4]] at hj3
            have : H.length ≤ (hAt H es k).length := F.mono (Nat.zero_le k) (by omega)
            omega
  let n := (hAt H es k).length
  have hnn : n = (hAt H es k).length := rfl
  let φ' : Phi := fun i => if i = n then some ⟨w.heap.size, 0, cs.size⟩ else φ i
  let c' : Nat → AObj := fun i => if i = n then .row false cells else c i
  have hm : ∀ i L, φ i = some L → φ' i = some L := fun i L e => by
    have : i ≠ n := fun he => by rw [he, hnn, hnew] at e; cases e
    simp [φ', this, e]
  have hφn : φ' n = some ⟨w.heap.size, 0, cs.size⟩ := by simp [φ']
  have hφo : ∀ i, i ≠ n → φ' i = φ i := fun i hi => by simp [φ', hi]
  have hcn : c' n = .row false cells := by simp [c']
  have hco : ∀ i, i ≠ n → c' i = c i := fun i hi => by simp [c', hi]
  have hold : ∀ (b o : Nat), b < w.heap.size → (w.alloc (.cells cs T)).cell? ⟨b, o, none⟩ = w.cell? ⟨b, o, none⟩ := fun b o hb => World.cell?_alloc_lt _ _ _ hb
  have holdf : ∀ (b o : Nat), b < w.heap.size → (w.alloc (.cells cs T)).frozen? ⟨b, o, none⟩ = w.frozen? ⟨b, o, none⟩ := fun b o hb => World.frozen?_alloc_old _ _ _ (Nat.ne_of_lt hb)
  have hrow : ∀ j, j < cs.size → (∃ u, (w.alloc (.cells cs T)).cell? ⟨w.heap.size, 0 + j, none⟩ = some u) ∧ (w.alloc (.cells cs T)).frozen? ⟨w.heap.size, 0 + j, none⟩ = false := fun j hj => by
    refine ⟨⟨cs[j], by rw [Nat.zero_add, World.cell?_alloc_new]; exact Array.getElem?_eq_getElem hj⟩, ?_⟩
    simp
  have hmine : ∀ i L, φ i = some L → (c i).isRow = true → L.block < w.heap.size := fun i L e hr => by
    have := I.obj F i L e
    cases ho : c i with
    | dead => rw [ho] at hr; cases hr
    | row ro cells =>
      rw [ho] at this hr
      cases ro with
      | true => cases hr
      | false => exact (this.own rfl).2
    | map es => rw [ho] at hr; cases hr
  have hvv : V (cutφ φ' (hAt H es (k + 1)).length) (vAt es k) v' := by
    have h1 : vAt es k = e.v := by simp [vAt, he]
    rw [h1]
    refine hv _ ?_ ?_
    · rw [heH]
      unfold cutφ; rw [if_pos (by omega)]; exact hφn
    · intro i L hi
      obtain ⟨h2, h3⟩ := cutφ_some hi
      unfold cutφ; rw [if_pos (by omega)]; exact hm i L h3
  obtain ⟨g1, g2⟩ := R.put F I hm (v' := v') hd hvv
  have hnewobj : ∀ m, n < m → ObjOk W.heap.size (cutφ φ' m) ⟨w.heap.size, 0, cs.size⟩ (.row false cells) (w.alloc (.cells cs T)) := fun m hnm => by
    refine ⟨hle, ?_, (by intro h; cases h), fun _ => ⟨I.base.size, by simp⟩, fun _ => hrow⟩
    intro j u hu
    have hj : j < cs.size := by have := (List.getElem?_eq_some_iff.1 hu).1; omega
    exact ⟨cs[j], by rw [Nat.zero_add, World.cell?_alloc_new]; exact Array.getElem?_eq_getElem hj, (hcs j u _ hu (Array.getElem?_eq_getElem hj)).mono (cutφ_mono (by omega) fun i L e _ => hm i L e)⟩
  refine ⟨φ', c', ⟨put_defers'.trans I.defers, put_size.trans I.size, ?_, I.sle, g1, g2, ?_, ?_, ?_, ?_, ?_, ?_, ?_, I.base.alloc I.base.size _, ?_, ?_, ?_, ?_, ?_⟩⟩
  · intro u f hu hf
    refine ⟨fun h => ?_, fun h => .inl ((I.wr u f hu hf).2 h)⟩
    rcases h with h | rfl
    · exact (I.wr u f hu hf).1 h
    · rw [he] at hu; obtain rfl := Option.some.inj hu; rw [hkd] at hf; cases hf
  · intro i L hi
    by_cases hin : i = n
    · exact .inr ⟨k, .inr rfl, by omega, by omega⟩
    · rw [hφo i hin] at hi
      rcases I.dom i L hi with h | ⟨j, a, b⟩
      · exact .inl h
      · exact .inr ⟨j, .inl a, b⟩
  · intro i L hi his
    by_cases hin : i = n
    · subst hin
      rw [hcn]
      have hks : k < s := by
        rcases Nat.lt_or_ge k s with h | h
        · exact h
        · have := F.mono h (by omega); omega
      have h1 : hget (hAt H es s) n = hget (hAt H es (k + 1)) n := F.chain (by omega) I.sle (by omega) fun u f hu hf h1 h2 => by
        have hul : u < l.length := by rw [← F.len]; exact (List.getElem?_eq_some_iff.1 hu).1
        have hSu : S u := (I.wr u f hu hf).2 h2
        have := hdyn u f hu hf ⟨fun h => R.bef' F u hSu hul h, fun h => by have := bef_lt F.back k o R.op u h; omega⟩ (by omega)
        rw [heH] at this; exact this
      rw [h1, hAt_at he, hH, heH]
      exact (hget_len _ _).symm
    · rw [hφo i hin] at hi
      rw [hco i hin]; exact I.c1 i L hi his
  · intro i L j hi his hj hj2 hj3
    by_cases hin : i = n
    · subst hin
      have hjk : j = k := by
        rcases hj with hj | hj
        · exfalso
          have hne : j ≠ k := fun h => by subst h; exact R.not_ hj
          rcases Nat.lt_or_ge j k with h | h
          · have := F.mono (show j + 1 ≤ k by omega) (by omega); omega
          · rcases Nat.lt_or_ge j l.length with hjl | hjl
            · have := F.mono (show k + 1 ≤ j by omega) (by omega); omega
            · have h4 : es[j]? = none := List.getElem?_eq_none (by rw [F.len]; exact hjl)
              rw [show hAt H es (j + 1) = H by simp [hAt, h4]] at hj3
              have : H.length ≤ (hAt H es k).length := F.mono (Nat.zero_le k) (by omega)
              omega
        · exact hj
      subst hjk
      rw [hcn, hAt_at he, hH, heH]
      exact (hget_len _ _).symm
    · rw [hφo i hin] at hi
      rw [hco i hin]
      rcases hj with hj | rfl
      · exact I.c2 i L j hi his hj hj2 hj3
      · omega
  · intro i L hi his
    by_cases hin : i = n
    · subst hin
      rw [hφn] at hi
      obtain rfl := Option.some.inj hi
      rw [hcn]
      exact hnewobj _ (by omega)
    · rw [hφo i hin] at hi
      rw [hco i hin]
      exact ((I.obj1 i L hi his).alloc cs T).mono (cutφ_mono (Nat.le_refl _) fun i L e _ => hm i L e)
  · intro i L j hi his hj hj2 hj3
    by_cases hin : i = n
    · subst hin
      rw [hφn] at hi
      obtain rfl := Option.some.inj hi
      rw [hcn]
      exact hnewobj _ (by omega)
    · rw [hφo i hin] at hi
      rw [hco i hin]
      rcases hj with hj | rfl
      · exact ((I.obj2 i L j hi his hj hj2 hj3).alloc cs T).mono (cutφ_mono (Nat.le_refl _) fun i L e _ => hm i L e)
      · omega
  · intro i j L M hij ei ej hi hj
    by_cases h1 : i = n
    · subst h1
      rw [hφn] at ei; obtain rfl := Option.some.inj ei
      have h2 : j ≠ n := fun h => hij h.symm
      rw [hφo j h2] at ej; rw [hco j h2] at hj
      exact .inl (by have := hmine j M ej hj; simp; omega)
    · rw [hφo i h1] at ei; rw [hco i h1] at hi
      by_cases h2 : j = n
      · subst h2
        rw [hφn] at ej; obtain rfl := Option.some.inj ej
        exact .inl (by have := hmine i L ei hi; simp; omega)
      · rw [hφo j h2] at ej; rw [hco j h2] at hj
        exact I.disj i j L M hij ei ej hi hj
  · intro i j L M hij ei ej hi hj
    have h1 : i ≠ n := fun h => by subst h; rw [hcn] at hi; cases hi
    have h2 : j ≠ n := fun h => by subst h; rw [hcn] at hj; cases hj
    rw [hφo i h1] at ei; rw [hco i h1] at hi
    rw [hφo j h2] at ej; rw [hco j h2] at hj
    exact I.mdisj i j L M hij ei ej hi hj
  · intro i hi
    have : H.length ≤ n := F.mono (Nat.zero_le k) (by omega)
    rw [hφo i (by omega)]; exact I.agree i hi
  · have := I.wsize; simp; omega
  · intro b q hb hno
    rw [hold b q (by have := I.wsize; omega)]; exact I.cells b q hb hno
  · intro b q hb hno
    rw [holdf b q (by have := I.wsize; omega)]; exact I.frozen b q hb hno
  · rintro b q hb ⟨i, L, ei, hr, h1, h2, h3⟩
    by_cases hin : i = n
    · subst hin; rw [hφn] at ei; obtain rfl := Option.some.inj ei
      have := I.wsize; dsimp only at h1; omega
    · rw [hφo i hin] at ei; rw [hco i hin] at hr
      exact I.own b q hb ⟨i, L, ei, hr, h1, h2, h3⟩

/-- a writer, or a call -/
theorem Ready.wrote (R : Ready l S k o) {a : Act} {w : World} {φ : Phi} {c : Nat → AObj} {s : Nat} (I : RInv N l t H es W φs ws dfr S a w φ c s) {e : Ev} (he : es[k]? = some e) (heH : e.H = hAt H es k) (hkd : e.kd = .write)
    (hd : ∀ d, o.dst = some d → d < N) :
    Sim W (cutφ φ (hAt H es k).length) e.H w ∧ ∀ φ₂ w' v', Sim W φ₂ e.H' w' → V φ₂ e.v v' → Step (cutφ φ (hAt H es k).length) e.H w φ₂ e.H' w' →
      ∃ φ' c' s', RInv N l t H es W φs ws dfr (fun j => S j ∨ j = k) (a.put o.dst v') w' φ' c' s' := by
  have hk := (List.getElem?_eq_some_iff.1 R.op).1
  have hks : s ≤ k := by
    rcases Nat.lt_or_ge k s with h | h
    · exact absurd ((I.wr k e he hkd).2 h) R.not_
    · exact h
  have hnw : ∀ u f, es[u]? = some f → f.kd = .write → s ≤ u → u < k → False := fun u f hu hf h1 h2 => by
    have hul : u < l.length := by omega
    rcases F.pair u k _ o h2 (List.getElem?_eq_getElem hul) R.op with h | ⟨_, h⟩
    · have := (I.wr u f hu hf).1 (R.bef F u h); omega
    · exact h f e hu he ⟨hf, hkd⟩
  have hcc : ∀ i L, φ i = some L → i < (hAt H es k).length → c i = hget (hAt H es k) i := fun i L hi hik =>
    by
      rcases Nat.lt_or_ge i (hAt H es s).length with his | his
      · rw [I.c1 i L hi his]
        exact (F.chain hks (by omega) his fun u f hu hf h1 h2 => (hnw u f hu hf h1 h2).elim).symm
      · rcases I.dom i L hi with h | ⟨j, hj1, hj2, hj3⟩
        · have : H.length ≤ (hAt H es s).length := F.mono (Nat.zero_le s) I.sle
          omega
        · rw [I.c2 i L j hi his hj1 hj2 hj3]
          have hjl : j < l.length := by
            rcases Nat.lt_or_ge j l.length with h | h
            · exact h
            · have h4 : es[j]? = none := List.getElem?_eq_none (by rw [F.len]; exact h)
              rw [show hAt H es (j + 1) = H by simp [hAt, h4]] at hj3
              have : H.length ≤ (hAt H es s).length := F.mono (Nat.zero_le s) I.sle
              omega
          have hjk : j < k := by
            rcases Nat.lt_or_ge j k with h | h
            · exact h
            · have := F.mono h (by omega); omega
          have hsj : s ≤ j := by
            rcases Nat.lt_or_ge j s with h | h
            · have := F.mono (show j + 1 ≤ s by omega) I.sle; omega
            · exact h
          exact (F.chain (show j + 1 ≤ k by omega) (by omega) hj3 fun u f hu hf h1 h2 => (hnw u f hu hf (by omega) h2).elim).symm
  -- what is there beyond
  have hbey : ∀ i L, φ i = some L → (hAt H es k).length ≤ i → (hAt H es (k + 1)).length ≤ i ∧ (c i).isMap = false ∧ ∃ j, S j ∧ k < j ∧ (hAt H es j).length ≤ i ∧ i < (hAt H es (j + 1)).length := fun i L hi hik => by
    rcases I.dom i L hi with h | ⟨j, hj1, hj2, hj3⟩
    · have : H.length ≤ (hAt H es k).length := F.mono (Nat.zero_le k) (by omega)
      omega
    · have hjl : j < l.length := by
        rcases Nat.lt_or_ge j l.length with h | h
        · exact h
        · have h4 : es[j]? = none := List.getElem?_eq_none (by rw [F.len]; exact h)
          rw [show hAt H es (j + 1) = H by simp [hAt, h4]] at hj3
          have : H.length ≤ (hAt H es k).length := F.mono (Nat.zero_le k) (by omega)
          omega
      have hne : j ≠ k := fun h => by subst h; exact R.not_ hj1
      have hkj : k < j := by
        rcases Nat.lt_or_ge k j with h | h
        · exact h
        · have := F.mono (show j + 1 ≤ k by omega) (by omega); omega
      refine ⟨Nat.le_trans (F.mono (show k + 1 ≤ j by omega) (by omega)) hj2, ?_, j, hj1, hkj, hj2, hj3⟩
      have his : (hAt H es s).length ≤ i := Nat.le_trans (F.mono hks (by omega)) hik
      rw [I.c2 i L j hi his hj1 hj2 hj3]
      obtain ⟨f, g1, g2, _, _, g5⟩ := F.at_ j _ (List.getElem?_eq_getElem hjl)
      rw [hAt_at g1] at hj3 ⊢
      rw [← g2] at hj2
      unfold OpEv at g5
      cases hf : f.kd <;> rw [hf] at g5 <;> dsimp only at g5
      · rw [g5.2.2] at hj3; omega
      · rw [g5.2.2] at hj3; omega
      · rw [g5.2.2.2] at hj3; omega
      · rename_i cells
        rw [g5.2.2] at hj3 ⊢
        rw [hget_append_ge hj2]
        have : i - f.H.length = 0 := by simp at hj3; omega
        rw [this]; rfl
      · have := (I.wr j f g1 hf).1 hj1; omega
  constructor
  · refine ⟨fun i L hi => ?_, fun i L hi => ?_, fun i j L M hij ei ej hi hj => ?_, fun i j L M hij ei ej hi hj => ?_, I.base⟩
    · rw [heH]; exact (cutφ_some hi).1
    · obtain ⟨h1, h2⟩ := cutφ_some hi
      rw [heH, ← hcc i L h2 h1]
      rcases Nat.lt_or_ge i (hAt H es s).length with his | his
      · exact (I.obj1 i L h2 his).mono (cutφ_mono (F.mono hks (by omega)) fun _ _ e _ => e)
      · rcases I.dom i L h2 with h | ⟨j, hj1, hj2, hj3⟩
        · have : H.length ≤ (hAt H es s).length := F.mono (Nat.zero_le s) I.sle
          omega
        · have hjk : j < k := by
            rcases Nat.lt_or_ge j k with h | h
            · exact h
            · rcases Nat.lt_or_ge j l.length with hjl | hjl
              · have := F.mono h (by omega); omega
              · have h4 : es[j]? = none := List.getElem?_eq_none (by rw [F.len]; exact hjl)
                rw [show hAt H es (j + 1) = H by simp [hAt, h4]] at hj3
                have : H.length ≤ (hAt H es s).length := F.mono (Nat.zero_le s) I.sle
                omega
          exact (I.obj2 i L j h2 his hj1 hj2 hj3).mono (cutφ_mono (F.mono (show j + 1 ≤ k by omega) (by omega)) fun _ _ e _ => e)
    · obtain ⟨h1, h2⟩ := cutφ_some ei
      obtain ⟨h3, h4⟩ := cutφ_some ej
      rw [heH, ← hcc i L h2 h1] at hi
      rw [heH, ← hcc j M h4 h3] at hj
      exact I.disj i j L M hij h2 h4 hi hj
    · obtain ⟨h1, h2⟩ := cutφ_some ei
      obtain ⟨h3, h4⟩ := cutφ_some ej
      rw [heH, ← hcc i L h2 h1] at hi
      rw [heH, ← hcc j M h4 h3] at hj
      exact I.mdisj i j L M hij h2 h4 hi hj
  · intro φ₂ w' v' hS2 hV2 hst
    have hn1 : e.H'.length = (hAt H es (k + 1)).length := by rw [hAt_at he]
    have hkk : (hAt H es k).length ≤ (hAt H es (k + 1)).length := F.mono (by omega) (by omega)
    let φ' : Phi := fun i => if i < (hAt H es (k + 1)).length then φ₂ i else φ i
    let c' : Nat → AObj := fun i => if i < (hAt H es (k + 1)).length then hget e.H' i else c i
    have hφl : ∀ i, i < (hAt H es (k + 1)).length → φ' i = φ₂ i := fun i hi => by simp [φ', hi]
    have hφg : ∀ i, (hAt H es (k + 1)).length ≤ i → φ' i = φ i := fun i hi => by simp [φ', Nat.not_lt.2 hi]
    have hcl : ∀ i, i < (hAt H es (k + 1)).length → c' i = hget e.H' i := fun i hi => by simp [c', hi]
    have hcg : ∀ i, (hAt H es (k + 1)).length ≤ i → c' i = c i := fun i hi => by simp [c', Nat.not_lt.2 hi]
    have hold2 : ∀ i, i < (hAt H es k).length → φ₂ i = φ i := fun i hi => by
      have := hst.agree i (by rw [heH]; exact hi)
      rw [this]; unfold cutφ; rw [if_pos hi]
    have hm : ∀ i L, φ i = some L → φ' i = some L := fun i L e1 => by
      rcases Nat.lt_or_ge i (hAt H es k).length with h | h
      · rw [hφl i (by omega), hold2 i h]; exact e1
      · rw [hφg i (hbey i L e1 h).1]; exact e1
    have h2' : ∀ i L, φ₂ i = some L → φ' i = some L ∧ i < (hAt H es (k + 1)).length := fun i L e1 => by
      have := hS2.dom i L e1
      rw [hn1] at this
      exact ⟨by rw [hφl i this]; exact e1, this⟩
    have h2c : ∀ i L, φ₂ i = some L → cutφ φ' (hAt H es (k + 1)).length i = some L := fun i L e1 => by
      obtain ⟨q1, q2⟩ := h2' i L e1
      unfold cutφ; rw [if_pos q2]; exact q1
    obtain ⟨g1, g2⟩ := R.put F I hm (v' := v') hd (by rw [show vAt es k = e.v by simp [vAt, he]]; exact hV2.mono h2c)
    have hownφ : ∀ b q, Owned (cutφ φ (hAt H es k).length) e.H b q → OwnF φ c b q := by
      rintro b q ⟨i, L, e1, e2, e3⟩
      obtain ⟨q1, q2⟩ := cutφ_some e1
      exact ⟨i, L, q2, by rw [hcc i L q2 q1, ← heH]; exact e2, e3⟩
    -- a later block is not touched
    have hlater : ∀ i L, φ i = some L → (hAt H es (k + 1)).length ≤ i → (c i).isRow = true → ∀ q, q < L.ext → L.block < w.heap.size ∧ ¬ Owned (cutφ φ (hAt H es k).length) e.H L.block (L.off + q) := by
      intro i L hi hik hr q hq
      constructor
      · have := I.obj F i L hi
        cases ho : c i with
        | dead => rw [ho] at hr; cases hr
        | row ro cells =>
          rw [ho] at this hr
          cases ro with
          | true => cases hr
          | false => exact (this.own rfl).2
        | map es => rw [ho] at hr; cases hr
      · rintro ⟨j, M, e1, e2, e3, e4, e5⟩
        obtain ⟨q1, q2⟩ := cutφ_some e1
        have := I.disj i j L M (by omega) hi q2 hr (by rw [hcc j M q2 q1, ← heH]; exact e2)
        unfold Apart at this; omega
    have hcrow : ∀ i L, φ i = some L → (hAt H es (k + 1)).length ≤ i → ∃ cells, c i = .row false cells := fun i L hi hik => by
      obtain ⟨_, _, j, hj1, hkj, hj2, hj3⟩ := hbey i L hi (by omega)
      have his : (hAt H es s).length ≤ i := Nat.le_trans (F.mono hks (by omega)) (by omega)
      have hjl : j < l.length := by
        rcases Nat.lt_or_ge j l.length with h | h
        · exact h
        · have h4 : es[j]? = none := List.getElem?_eq_none (by rw [F.len]; exact h)
          rw [show hAt H es (j + 1) = H by simp [hAt, h4]] at hj3
          have : H.length ≤ (hAt H es k).length := F.mono (Nat.zero_le k) (by omega)
          omega
      rw [I.c2 i L j hi his hj1 hj2 hj3]
      obtain ⟨f, g1, g2, _, _, g5⟩ := F.at_ j _ (List.getElem?_eq_getElem hjl)
      rw [hAt_at g1] at hj3 ⊢
      rw [← g2] at hj2
      unfold OpEv at g5
      cases hf : f.kd <;> rw [hf] at g5 <;> dsimp only at g5
      · rw [g5.2.2] at hj3; omega
      · rw [g5.2.2] at hj3; omega
      · rw [g5.2.2.2] at hj3; omega
      · rename_i cells
        rw [g5.2.2] at hj3 ⊢
        rw [hget_append_ge hj2]
        have : i - f.H.length = 0 := by simp at hj3; omega
        exact ⟨cells, by rw [this]; rfl⟩
      · have := (I.wr j f g1 hf).1 hj1; omega
    refine ⟨φ', c', k + 1, ⟨put_defers'.trans I.defers, put_size.trans I.size, ?_, by omega, g1, g2, ?_, ?_, ?_, ?_, ?_, ?_, ?_, hS2.base, ?_, ?_, ?_, ?_, ?_⟩⟩
    · intro u f hu hf
      have hul : u < l.length := by rw [← F.len]; exact (List.getElem?_eq_some_iff.1 hu).1
      constructor
      · rintro (h | rfl)
        · have := (I.wr u f hu hf).1 h; omega
        · omega
      · intro h
        by_cases huk : u = k
        · exact .inr huk
        · rcases F.pair u k _ o (by omega) (List.getElem?_eq_getElem hul) R.op with h' | ⟨_, h'⟩
          · exact .inl (R.bef F u h')
          · exact absurd ⟨hf, hkd⟩ (h' f e hu he)
    · intro i L hi
      rcases Nat.lt_or_ge i (hAt H es (k + 1)).length with h | h
      · rcases Nat.lt_or_ge i (hAt H es k).length with h' | h'
        · rw [hφl i h, hold2 i h'] at hi
          rcases I.dom i L hi with h | ⟨j, a, b⟩
          · exact .inl h
          · exact .inr ⟨j, .inl a, b⟩
        · exact .inr ⟨k, .inr rfl, h', h⟩
      · rw [hφg i h] at hi
        rcases I.dom i L hi with h | ⟨j, a, b⟩
        · exact .inl h
        · exact .inr ⟨j, .inl a, b⟩
    · intro i L hi h
      rw [hcl i h, hAt_at he]
    · intro i L j hi his hj hj2 hj3
      rw [hφg i his] at hi
      rw [hcg i his]
      rcases hj with hj | rfl
      · exact I.c2 i L j hi (Nat.le_trans (F.mono (show s ≤ k + 1 by omega) (by omega)) his) hj hj2 hj3
      · omega
    · intro i L hi h
      rw [hφl i h] at hi
      rw [hcl i h]
      exact (hS2.obj i L hi).mono h2c
    · intro i L j hi his hj hj2 hj3
      rw [hφg i his] at hi
      rw [hcg i his]
      rcases hj with hj | rfl
      · have h0 := (I.obj2 i L j hi (Nat.le_trans (F.mono (show s ≤ k + 1 by omega) (by omega)) his) hj hj2 hj3).mono (cutφ_mono (φ' := φ') (Nat.le_refl _) fun i L e _ => hm i L e)
        obtain ⟨cells, hc⟩ := hcrow i L hi his
        have hr : (c i).isRow = true := by rw [hc]; rfl
        rw [hc] at h0 ⊢
        refine ⟨h0.fits, fun q u hu => ?_, h0.old, fun hr => ⟨(h0.own hr).1, Nat.lt_of_lt_of_le (h0.own hr).2 hst.size⟩, fun hr' q hq => ?_⟩
        · have hq : q < L.ext := by have := (List.getElem?_eq_some_iff.1 hu).1; have := h0.fits; omega
          obtain ⟨q1, q2⟩ := hlater i L hi his hr q hq
          rw [hst.cells _ _ q1 q2]; exact h0.reads q u hu
        · obtain ⟨q1, q2⟩ := hlater i L hi his hr q hq
          rw [hst.cells _ _ q1 q2, hst.frozen _ _ q1 q2]; exact h0.there hr' q hq
      · omega
    · have cross : ∀ i j L M, i < (hAt H es (k + 1)).length → (hAt H es (k + 1)).length ≤ j → φ' i = some L → φ' j = some M → (c' i).isRow = true → (c' j).isRow = true → Apart L M := by
        intro i j L M h1 h2 ei ej hi hj
        rw [hφl i h1] at ei; rw [hcl i h1] at hi
        rw [hφg j h2] at ej; rw [hcg j h2] at hj
        rcases Nat.eq_zero_or_pos L.ext with h0 | h0
        · exact .inr (.inl h0)
        · rcases Nat.eq_zero_or_pos M.ext with h0' | h0'
          · exact .inr (.inr (.inl h0'))
          · rcases Classical.em (Apart L M) with h | h
            · exact h
            · exfalso
              have hmax : ∃ q, q < M.ext ∧ L.off ≤ M.off + q ∧ M.off + q < L.off + L.ext ∧ L.block = M.block := by
                unfold Apart at h
                refine ⟨max L.off M.off - M.off, by omega, by omega, by omega, by omega⟩
              obtain ⟨q, q1, q2, q3, q4⟩ := hmax
              obtain ⟨r1, r2⟩ := hlater j M ej h2 hj q q1
              exact r2 (hst.own _ _ r1 ⟨i, L, ei, hi, q4, q2, q3⟩)
      intro i j L M hij ei ej hi hj
      rcases Nat.lt_or_ge i (hAt H es (k + 1)).length with h1 | h1 <;> rcases Nat.lt_or_ge j (hAt H es (k + 1)).length with h2 | h2
      · rw [hφl i h1] at ei; rw [hcl i h1] at hi; rw [hφl j h2] at ej; rw [hcl j h2] at hj
        exact hS2.disj i j L M hij ei ej hi hj
      · exact cross i j L M h1 h2 ei ej hi hj
      · exact (cross j i M L h2 h1 ej ei hj hi).symm
      · rw [hφg i h1] at ei; rw [hcg i h1] at hi; rw [hφg j h2] at ej; rw [hcg j h2] at hj
        exact I.disj i j L M hij ei ej hi hj
    · intro i j L M hij ei ej hi hj
      have nomap : ∀ i L, (hAt H es (k + 1)).length ≤ i → φ' i = some L → (c' i).isMap = true → False := fun i L h e1 e2 => by
        rw [hφg i h] at e1; rw [hcg i h] at e2
        obtain ⟨cells, hc⟩ := hcrow i L e1 h
        rw [hc] at e2; cases e2
      rcases Nat.lt_or_ge i (hAt H es (k + 1)).length with h1 | h1
      · rcases Nat.lt_or_ge j (hAt H es (k + 1)).length with h2 | h2
        · rw [hφl i h1] at ei; rw [hcl i h1] at hi; rw [hφl j h2] at ej; rw [hcl j h2] at hj
          exact hS2.mdisj i j L M hij ei ej hi hj
        · exact (nomap j M h2 ej hj).elim
      · exact (nomap i L h1 ei hi).elim
    · intro i hi
      have h1 : H.length ≤ (hAt H es k).length := F.mono (Nat.zero_le k) (by omega)
      rw [hφl i (by omega), hold2 i (by omega)]; exact I.agree i hi
    · exact Nat.le_trans I.wsize hst.size
    · intro b q hb hno
      rw [hst.cells b q (Nat.lt_of_lt_of_le hb I.wsize) (fun h => hno (I.own b q hb (hownφ b q h)))]; exact I.cells b q hb hno
    · intro b q hb hno
      rw [hst.frozen b q (Nat.lt_of_lt_of_le hb I.wsize) (fun h => hno (I.own b q hb (hownφ b q h)))]; exact I.frozen b q hb hno
    · rintro b q hb ⟨i, L, ei, hr, h1, h2, h3⟩
      rcases Nat.lt_or_ge i (hAt H es (k + 1)).length with h | h
      · rw [hφl i h] at ei; rw [hcl i h] at hr
        exact I.own b q hb (hownφ b q (hst.own b q (Nat.lt_of_lt_of_le hb I.wsize) ⟨i, L, ei, hr, h1, h2, h3⟩))
      · rw [hφg i h] at ei; rw [hcg i h] at hr
        exact I.own b q hb ⟨i, L, ei, hr, h1, h2, h3⟩

end thm
end Go.Proofs.Ytocaepkkaihiiaa.Am
