/-
  Maps from numbers to truth values: made, written, counted. No condition.
-/
import Derived.Test.YtocaepkkaihiiaaAm24
namespace Go.Proofs.Ytocaepkkaihiiaa.Am
open Go Go.RowKit
set_option linter.unusedVariables false
set_option linter.unusedSimpArgs false

theorem mkE_len (es : List (Value × Value)) : (mkE es).size = es.length := by simp [mkE]
theorem mkE_get (es : List (Value × Value)) (i : Nat) : (mkE es)[i]? = (es[i]?).map fun e => { key := e.1, val := e.2, born := i } := by
  simp [mkE]
theorem mkE_push (es : List (Value × Value)) (k v : Value) : (mkE es).push { key := k, val := v, born := es.length } = mkE (es ++ [(k, v)]) := by
  apply Array.ext_getElem?
  intro i
  rw [mkE_get, Array.getElem?_push, mkE_len, mkE_get]
  by_cases h : i = es.length
  · subst h; simp
  · rw [if_neg h]
    rcases Nat.lt_or_ge i es.length with h1 | h1
    · rw [List.getElem?_append_left h1]
    · rw [List.getElem?_eq_none h1, List.getElem?_eq_none (by simp; omega)]
theorem mkE_modify (es : List (Value × Value)) (i : Nat) (f : MapEntry → MapEntry) (g : Value × Value → Value × Value) (h : ∀ e, es[i]? = some e → f { key := e.1, val := e.2, born := i } = { key := (g e).1, val := (g e).2, born := i }) :
    (mkE es).modify i f = mkE (es.modify i g) := by
  apply Array.ext_getElem?
  intro j
  rw [mkE_get, Array.getElem?_modify, mkE_get, List.getElem?_modify]
  by_cases e : i = j
  · subst e
    cases he : es[i]? with
    | none => simp
    | some x => simp [h x he]
  · simp [e]

/-- The world with another map at a block. -/
def wmap (w : World) (b : Nat) (es : List (Value × Value)) : World := { w with heap := w.heap.setIfInBounds b (.map (mkE es) es.length) }
theorem cell_map {w : World} {b o : Nat} {es : Array MapEntry} {c : Nat} (h : w.heap[b]? = some (.map es c)) : w.cell? ⟨b, o, none⟩ = none := by simp [World.cell?, h]
theorem frozen_map {w : World} {b o : Nat} {es : Array MapEntry} {c : Nat} (h : w.heap[b]? = some (.map es c)) : w.frozen? ⟨b, o, none⟩ = false := by simp [World.frozen?, h]

theorem map_ok {W : World} {φ : Phi} {H : AHeap} {w : World} {i : Nat} {L : Loc} {es es2 : List (Value × Value)} (hs : Sim W φ H w) (hL : φ i = some L) (hi0 : hget H i = .map es) (hf : ∀ e ∈ es2, Flat e.1 ∧ Flat e.2) :
    Sim W φ (H.set i (.map es2)) (wmap w L.block es2) ∧ Step φ H w φ (H.set i (.map es2)) (wmap w L.block es2) := by
  have hlt := hs.dom i L hL
  have hobj := hs.obj i L hL
  rw [hi0] at hobj
  have hB := hobj.own.1
  have hb := hobj.holds
  have hmap : (hget H i).isMap = true := by rw [hi0]; rfl
  have hsame : hget (H.set i (.map es2)) i = .map es2 := hget_set_same _ hlt
  have hset := MapKept.heap_set (o' := .map (mkE es2) es2.length) hb
  have hsz : (wmap w L.block es2).heap.size = w.heap.size := by simp [wmap]
  have hmm : ∀ j, (hget (H.set i (.map es2)) j).isMap = (hget H j).isMap := fun j => by
    by_cases hj : i = j
    · subst hj; rw [hsame, hi0]; rfl
    · rw [hget_set_other _ hj]
  have hrr : ∀ j, (hget (H.set i (.map es2)) j).isRow = (hget H j).isRow := fun j => by
    by_cases hj : i = j
    · subst hj; rw [hsame, hi0]; rfl
    · rw [hget_set_other _ hj]
  have hcell : ∀ b o, (wmap w L.block es2).cell? ⟨b, o, none⟩ = w.cell? ⟨b, o, none⟩ := fun b o => by
    by_cases e : b = L.block
    · subst e; rw [cell_map hb, cell_map hset.1]
    · exact World.cell?_of_block (hset.2 _ e)
  have hfroz : ∀ b o, (wmap w L.block es2).frozen? ⟨b, o, none⟩ = w.frozen? ⟨b, o, none⟩ := fun b o => by
    by_cases e : b = L.block
    · subst e; rw [frozen_map hb, frozen_map hset.1]
    · exact World.frozen?_of_block (hset.2 _ e)
  refine ⟨⟨fun j M e => by simpa using hs.dom j M e, ?_, fun j k M K hjk ej ek hj hk => hs.disj j k M K hjk ej ek (by rw [← hrr]; exact hj) (by rw [← hrr]; exact hk), fun j k M K hjk ej ek hj hk => hs.mdisj j k M K hjk ej ek (by rw [← hmm]; exact hj) (by rw [← hmm]; exact hk), ?_⟩,
    ⟨fun _ _ => rfl, by simp, by rw [hsz]; exact Nat.le_refl _, fun b o _ _ => hcell b o, fun b o _ _ => hfroz b o, ?_⟩⟩
  · intro j M e
    by_cases hj : i = j
    · subst hj
      rw [hL] at e
      obtain rfl := Option.some.inj e
      rw [hsame]
      exact ⟨hobj.off, hobj.ext, ⟨hB, by rw [hsz]; exact hobj.own.2⟩, hf, hset.1⟩
    · rw [hget_set_other _ hj]
      have hoj := hs.obj j M e
      cases ho : hget H j with
      | dead => trivial
      | row ro cells =>
        rw [ho] at hoj
        refine ⟨hoj.fits, fun k c hc => ?_, hoj.old, fun hr => ⟨(hoj.own hr).1, by rw [hsz]; exact (hoj.own hr).2⟩, fun hr k hk => ?_⟩
        · rw [hcell]; exact hoj.reads k c hc
        · rw [hfroz, hcell]; exact hoj.there hr k hk
      | map es' =>
        rw [ho] at hoj
        have hne := hs.mdisj i j L M hj hL e hmap (by rw [ho]; rfl)
        exact ⟨hoj.off, hoj.ext, ⟨hoj.own.1, by rw [hsz]; exact hoj.own.2⟩, hoj.flat, by rw [show (wmap w L.block es2).heap[M.block]? = w.heap[M.block]? from hset.2 _ hne.symm]; exact hoj.holds⟩
  · have hbl := hs.base
    exact ⟨hbl.os, hbl.tape, hbl.output, by rw [hsz]; exact hbl.size, fun k hk => by
      rw [show (wmap w L.block es2).heap[k]? = w.heap[k]? from hset.2 _ (by omega)]; exact hbl.block k hk⟩
  · rintro b o hb' ⟨j, M, e, hr, r⟩
    exact ⟨j, M, e, by rw [← hrr]; exact hr, r⟩

/-! numbers to truth values -/
def ib (l : List (Int × Bool)) : List (Value × Value) := l.map fun e => (.int .i64 e.1, .bool e.2)
def mf (k : Int) : List (Int × Bool) → Nat → Option (Nat × Bool)
  | [], _ => none
  | e :: l, i => if k = e.1 then some (i, e.2) else mf k l (i + 1)
def mi (l : List (Int × Bool)) (k : Int) : Nat := ((mf k l 0).map (·.1)).getD l.length
def mb (l : List (Int × Bool)) (k : Int) : Bool := ((mf k l 0).map (·.2)).getD false
def ment (l : List (Int × Bool)) (k : Int) : List (Int × Bool) := if (mf k l 0).isSome then l else l ++ [(k, false)]
def mst (l : List (Int × Bool)) (i : Nat) (b : Bool) : List (Int × Bool) := l.modify i fun e => (e.1, b)
theorem mf_some {k : Int} {b : Bool} : ∀ {l : List (Int × Bool)} {i j : Nat}, mf k l i = some (j, b) → i ≤ j ∧ l[j - i]? = some (k, b)
  | [], _, _, h => by cases h
  | e :: l, i, j, h => by
    unfold mf at h
    split at h
    · rename_i hk
      simp only [Option.some.injEq, Prod.mk.injEq] at h
      obtain ⟨rfl, rfl⟩ := h
      simp [hk]
    · have := mf_some h
      refine ⟨by omega, ?_⟩
      rw [show j - i = (j - (i + 1)) + 1 by omega, List.getElem?_cons_succ]; exact this.2
theorem mi_lt (l : List (Int × Bool)) (k : Int) : mi l k < (ment l k).length := by
  unfold mi ment
  cases h : mf k l 0 with
  | none => simp
  | some x =>
    obtain ⟨j, b⟩ := x
    have := (List.getElem?_eq_some_iff.1 (mf_some h).2).1
    simp; simpa using this
theorem ib_flat (l : List (Int × Bool)) : ∀ e ∈ ib l, Flat e.1 ∧ Flat e.2 := by
  intro e he
  obtain ⟨x, _, rfl⟩ := List.mem_map.1 he
  exact ⟨.int _ _, .bool _⟩
theorem findNow_ib (k : Int) : ∀ (l : List (Int × Bool)) (es : List MapEntry) (i : Nat), es.map (fun e => (e.key, e.val)) = ib l → Instr.findNow (.int .i64) (.int .i64 k) es i = some ((mf k l i).map fun x => (x.1, .bool x.2))
  | [], es, i, h => by
    cases es with
    | nil => rfl
    | cons e es => cases h
  | x :: l, es, i, h => by
    cases es with
    | nil => cases h
    | cons e es =>
      simp only [ib, List.map_cons, List.cons.injEq, Prod.mk.injEq] at h
      obtain ⟨⟨h1, h2⟩, h3⟩ := h
      have ih := findNow_ib k l es (i + 1) h3
      unfold mf
      by_cases hk : k = x.1
      · simp [Instr.findNow, Instr.sameNow, h1, h2, hk]
      · have hk' : (k == x.1) = false := by simpa using hk
        simp [Instr.findNow, Instr.sameNow, h1, hk, hk', ih]
theorem mkE_kv (es : List (Value × Value)) : (mkE es).toList.map (fun e => (e.key, e.val)) = es := by
  apply List.ext_getElem?
  intro i
  simp [mkE]
  cases es[i]? <;> rfl
theorem V.inv_map {φ : Phi} {r : Nat} {u : Value} (h : V φ (.map (some r)) u) : ∃ L, φ r = some L ∧ u = .map (some L.block) := by
  cases h with
  | map _ L h => exact ⟨L, h, rfl⟩

section maps
variable {P : Program} {N : Nat} {t : Env} {H : AHeap} {d : Option Tmp} {ty : TypeId} {pos : String} {af : Array Edge} {g : Option (Nat × Bool)}
theorem map_at {W : World} {φ : Phi} {w : World} (hs : Sim W φ H w) {r : Nat} {L : Loc} {es : List (Value × Value)} (hL : φ r = some L) (hi : hget H r = .map es) : w.heap[L.block]? = some (.map (mkE es) es.length) := by
  have := hs.obj r L hL
  rw [hi] at this
  exact this.holds
theorem set_same {H : AHeap} {i : Nat} {o : AObj} (hi : hget H i = o) : H.set i o = H := by
  apply List.ext_getElem?
  intro j
  rw [List.getElem?_set]
  by_cases h : i = j
  · subst h
    by_cases hl : i < H.length
    · rw [if_pos rfl, if_pos hl]
      simp [hget, List.getD, List.getElem?_eq_getElem hl] at hi
      rw [List.getElem?_eq_getElem hl, hi]
    · rw [if_pos rfl, if_neg hl, List.getElem?_eq_none (by omega)]
  · rw [if_neg h]
theorem wmap_same {w : World} {b : Nat} {es : List (Value × Value)} (h : w.heap[b]? = some (.map (mkE es) es.length)) : wmap w b es = w := by
  unfold wmap
  have : w.heap.setIfInBounds b (.map (mkE es) es.length) = w.heap := by
    apply Array.ext_getElem?
    intro j
    rw [Array.getElem?_setIfInBounds]
    by_cases e : b = j
    · subst e; rw [if_pos rfl, h]; simp; exact (Array.getElem?_eq_some_iff.1 h).1
    · rw [if_neg e]
  rw [this]
theorem m_mapEntry {T kt et : TypeId} {x y : Operand} {r : Nat} {k : Int} {l : List (Int × Bool)} (hT : P.underlying T = some (.map kt et)) (hk : P.underlying kt = some (.int .i64)) (hz : ∀ w, (zeroValue et).run P w = .ok (.bool false) w)
    (hx : aEv t x = some (.map (some r))) (hy : aEv t y = some (.int .i64 k)) (hi : hget H r = .map (ib l)) :
    OpOk P N ⟨d, .mapEntry T x y, ty, pos, af, g⟩ t H (.tuple #[.bool (mb l k), .int .i64 (mi l k)]) (H.set r (.map (ib (ment l k)))) := by
  intro W φ w a hs he
  obtain ⟨L, hL, ex⟩ := (ev_ok he hx).inv_map
  have ey := ev_int he hy
  have hb := map_at hs hL hi
  have hf := findNow_ib k l (mkE (ib l)).toList 0 (mkE_kv _)
  have hkey : MapKept.IsKey (.int .i64) (.int .i64 k) := rfl
  obtain ⟨s1, s2⟩ := map_ok (es2 := ib (ment l k)) hs hL hi (ib_flat _)
  have hv : V φ (.tuple #[.bool (mb l k), .int .i64 (mi l k)]) (.tuple #[.bool (mb l k), .int .i64 (mi l k)]) := V.flat (.tuple _ fun i v h => by
    match i, h with
    | 0, h => simp at h; subst h; exact .bool _
    | 1, h => simp at h; subst h; exact .int _ _
    | i + 2, h => simp at h)
  refine Does.of_value (v := .tuple #[.bool (mb l k), .int .i64 (mi l k)]) (w' := wmap w L.block (ib (ment l k))) ?_ ⟨φ, s1, hv, s2⟩
  cases hm : mf k l 0 with
  | none =>
    rw [hm] at hf
    have e1 : ment l k = l ++ [(k, false)] := by simp [ment, hm]
    have e2 : mi l k = l.length := by simp [mi, hm]
    have e3 : mb l k = false := by simp [mb, hm]
    have e4 : ib (ment l k) = ib l ++ [(.int .i64 k, .bool false)] := by rw [e1]; simp [ib]
    have e5 : (ib l).length = l.length := by simp [ib]
    simp only [execOp, ex, ey, Instr.mapEntry, Sem.run_bind, run_underlying hT, MapKept.run_getObj_map hb, MapKept.run_checkKey hk hkey, MapKept.run_findKey hk hf, Option.map_none, hz, MapKept.run_setObj_map _ hb, Result.andThen]
    simp [e2, e3, wmap, e4, ← mkE_push, e5, goInt]
  | some x =>
    obtain ⟨j, b⟩ := x
    rw [hm] at hf
    have hj := (mf_some hm).2
    have e1 : ment l k = l := by simp [ment, hm]
    have e2 : mi l k = j := by simp [mi, hm]
    have e3 : mb l k = b := by simp [mb, hm]
    have hj' : (ib l)[j]? = some (.int .i64 k, .bool b) := by
      have h0 : l[j]? = some (k, b) := by simpa using hj
      unfold ib
      rw [List.getElem?_map, h0]; rfl
    have e6 : (mkE (ib l))[j]? = some { key := .int .i64 k, val := .bool b, born := j } := by rw [mkE_get, hj']; rfl
    have e7 : (mkE (ib l)).modify j (fun e => { e with key := .int .i64 k }) = mkE (ib l) := by
      rw [mkE_modify (g := id) _ _ _ (fun e he => by rw [hj'] at he; obtain rfl := Option.some.inj he; rfl)]
      congr 1
      apply List.ext_getElem?
      intro i
      rw [List.getElem?_modify]; cases (ib l)[i]? <;> simp
    simp only [execOp, ex, ey, Instr.mapEntry, Sem.run_bind, run_underlying hT, MapKept.run_getObj_map hb, MapKept.run_checkKey hk hkey, MapKept.run_findKey hk hf, Option.map_some, e6, Option.getD_some, MapKept.run_keyThatStays hkey, MapKept.run_setObj_map _ hb, Result.andThen, e7]
    simp [e2, e3, wmap, e1, goInt]
theorem m_entryStore {T : TypeId} {x y z : Operand} {r i : Nat} {b : Bool} {l : List (Int × Bool)}
    (hx : aEv t x = some (.map (some r))) (hy : aEv t y = some (.int .i64 i)) (hz : aEv t z = some (.bool b)) (hi : hget H r = .map (ib l)) (hlt : i < l.length) :
    OpOk P N ⟨d, .entryStore T x y z, ty, pos, af, g⟩ t H undef (H.set r (.map (ib (mst l i b)))) := by
  intro W φ w a hs he
  obtain ⟨L, hL, ex⟩ := (ev_ok he hx).inv_map
  have ey := ev_int he hy
  have ez := ev_bool he hz
  have hb := map_at hs hL hi
  obtain ⟨s1, s2⟩ := map_ok (es2 := ib (mst l i b)) hs hL hi (ib_flat _)
  have e5 : (ib l).length = l.length := by simp [ib]
  have e6 : (ib (mst l i b)).length = (ib l).length := by simp [ib, mst]
  have hfi : ∀ p : MapEntry → Bool, (∀ e, p e = decide (e.born = i)) → (mkE (ib l)).findIdx? p = some i := fun p hp => by
    rw [Array.findIdx?_eq_some_iff_getElem]
    refine ⟨by rw [mkE_len, e5]; exact hlt, ?_, fun j hj => ?_⟩
    · have := mkE_get (ib l) i
      rw [Array.getElem?_eq_getElem (by rw [mkE_len, e5]; exact hlt), List.getElem?_eq_getElem (by omega)] at this
      rw [Option.some.inj this, hp]; simp
    · have := mkE_get (ib l) j
      rw [Array.getElem?_eq_getElem (by rw [mkE_len, e5]; omega), List.getElem?_eq_getElem (by omega)] at this
      rw [Option.some.inj this, hp]; simp; omega
  have e7 : (mkE (ib l)).modify i (fun e => { e with val := .bool b }) = mkE (ib (mst l i b)) := by
    rw [mkE_modify (g := fun e => (e.1, .bool b)) _ _ _ (fun e he => rfl)]
    congr 1
    apply List.ext_getElem?
    intro j
    simp only [ib, mst, List.getElem?_map, List.getElem?_modify]
    by_cases h : i = j
    · subst h; cases l[i]? <;> simp
    · simp [h]
  refine Does.of_skip (w' := wmap w L.block (ib (mst l i b))) ?_ ⟨φ, s1, V.flat (.tuple _ (fun i v h => by simp at h)), s2⟩
  simp only [execOp, ex, ey, ez, Instr.entryStore, Sem.run_bind, MapKept.run_getObj_map hb, Result.andThen, asInt, asIntOf, Sem.run_pure]
  rw [hfi _ (fun e => by rw [Bool.eq_iff_iff]; simp; omega)]
  simp only [MapKept.run_setObj_map _ hb, e7]
  simp [wmap, e6]
theorem m_lenMap {T kt et : TypeId} {x : Operand} {r : Nat} {l : List (Int × Bool)} (hT : P.underlying T = some (.map kt et)) (hx : aEv t x = some (.map (some r))) (hi : hget H r = .map (ib l)) :
    OpOk P N ⟨d, .call { callee := .builtin .len, args := #[x], argTypes := #[T] }, ty, pos, af, g⟩ t H (.int .i64 l.length) H := by
  intro W φ w a hs he
  obtain ⟨L, hL, ex⟩ := (ev_ok he hx).inv_map
  have hb := map_at hs hL hi
  refine Does.of_value (v := .int .i64 l.length) (w' := w) ?_ ⟨φ, hs, .int _ _, Step.refl _ _ _⟩
  simp [execOp, resolve, invoke, builtin, Builtin.len_, ex, run_underlying hT, MapKept.run_getObj_map hb, Result.andThen, goInt, mkE_len, ib]
theorem mapnew_ok {W : World} {φ : Phi} {w : World} (hs : Sim W φ H w) :
    ∃ φ', Sim W φ' (H ++ [.map []]) (w.alloc (.map #[] 0)) ∧ Step φ H w φ' (H ++ [.map []]) (w.alloc (.map #[] 0)) ∧ φ' H.length = some ⟨w.heap.size, 0, 1⟩ := by
  have hfresh : φ H.length = none := by
    cases e : φ H.length with
    | none => rfl
    | some L => exact absurd (hs.dom _ _ e) (Nat.lt_irrefl _)
  let φ' : Phi := fun i => if i = H.length then some ⟨w.heap.size, 0, 1⟩ else φ i
  have hm : ∀ i L, φ i = some L → φ' i = some L := fun i L e => by
    have : i ≠ H.length := fun he => by rw [he, hfresh] at e; cases e
    simp [φ', this, e]
  have hnew : φ' H.length = some ⟨w.heap.size, 0, 1⟩ := by simp [φ']
  have hother : ∀ i, i ≠ H.length → φ' i = φ i := fun i hi => by simp [φ', hi]
  have hold : ∀ (b o : Nat), b < w.heap.size → (w.alloc (.map #[] 0)).cell? ⟨b, o, none⟩ = w.cell? ⟨b, o, none⟩ := fun b o hb => World.cell?_alloc_lt _ _ _ hb
  have holdf : ∀ (b o : Nat), b < w.heap.size → (w.alloc (.map #[] 0)).frozen? ⟨b, o, none⟩ = w.frozen? ⟨b, o, none⟩ := fun b o hb => World.frozen?_alloc_old _ _ _ (Nat.ne_of_lt hb)
  have hmine : ∀ i L, φ i = some L → (hget H i).isMap = true → L.block < w.heap.size := fun i L e hm => by
    have := hs.obj i L e
    cases ho : hget H i with
    | dead => rw [ho] at hm; cases hm
    | row ro cells => rw [ho] at hm; cases ro <;> cases hm
    | map es => rw [ho] at this; exact this.own.2
  refine ⟨φ', ⟨?_, ?_, ?_, ?_, ?_⟩, ⟨?_, ?_, ?_, ?_, ?_, ?_⟩, hnew⟩
  · intro i L e
    by_cases hi : i = H.length
    · subst hi; simp
    · rw [hother i hi] at e; have := hs.dom i L e; simp; omega
  · intro i L e
    by_cases hi : i = H.length
    · subst hi
      rw [hnew] at e
      obtain rfl := Option.some.inj e
      rw [hget_len]
      exact ⟨rfl, rfl, ⟨hs.base.size, by simp⟩, (by intro e h; cases h), (MapKept.heap_alloc w _).1⟩
    · rw [hother i hi] at e
      have hlt := hs.dom i L e
      rw [hget_append_lt hlt]
      have := hs.obj i L e
      cases ho : hget H i with
      | dead => trivial
      | row ro cells' =>
        rw [ho] at this
        refine ⟨this.fits, ?_, this.old, fun hr => ⟨(this.own hr).1, by have := (this.own hr).2; simp; omega⟩, fun hr j hj => ?_⟩
        · intro j c hc
          obtain ⟨c', h1, h2⟩ := this.reads j c hc
          exact ⟨c', by rw [hold _ _ (World.block_lt_of_cell? _ _ h1)]; exact h1, h2.mono hm⟩
        · rw [hold _ _ (this.own hr).2, holdf _ _ (this.own hr).2]; exact this.there hr j hj
      | map es =>
        rw [ho] at this
        exact ⟨this.off, this.ext, ⟨this.own.1, by have := this.own.2; simp; omega⟩, this.flat, by rw [(MapKept.heap_alloc w _).2 _ this.own.2]; exact this.holds⟩
  · intro i j L M hij ei ej hi hj
    have h1 : i ≠ H.length := fun h => by subst h; rw [hget_len] at hi; cases hi
    have h2 : j ≠ H.length := fun h => by subst h; rw [hget_len] at hj; cases hj
    rw [hother i h1] at ei; rw [hother j h2] at ej
    rw [hget_append_lt (hs.dom i L ei)] at hi; rw [hget_append_lt (hs.dom j M ej)] at hj
    exact hs.disj i j L M hij ei ej hi hj
  · intro i j L M hij ei ej hi hj
    have new : ∀ k K, k ≠ H.length → φ' k = some K → (hget (H ++ [AObj.map []]) k).isMap = true → K.block < w.heap.size := fun k K hk ek hk' => by
      rw [hother k hk] at ek
      rw [hget_append_lt (hs.dom k K ek)] at hk'
      exact hmine k K ek hk'
    by_cases h1 : i = H.length
    · subst h1
      rw [hnew] at ei; obtain rfl := Option.some.inj ei
      have := new j M (fun h => hij h.symm) ej hj
      show w.heap.size ≠ M.block
      omega
    · by_cases h2 : j = H.length
      · subst h2
        rw [hnew] at ej; obtain rfl := Option.some.inj ej
        have := new i L h1 ei hi
        show L.block ≠ w.heap.size
        omega
      · rw [hother i h1] at ei; rw [hother j h2] at ej
        rw [hget_append_lt (hs.dom i L ei)] at hi; rw [hget_append_lt (hs.dom j M ej)] at hj
        exact hs.mdisj i j L M hij ei ej hi hj
  · exact hs.base.alloc hs.base.size _
  · intro i hi; exact hother i (Nat.ne_of_lt hi)
  · simp
  · simp
  · intro b o hb _; exact hold b o hb
  · intro b o hb _; exact holdf b o hb
  · rintro b o hb ⟨i, L, e, hr, h1, h2, h3⟩
    by_cases hi : i = H.length
    · subst hi; rw [hget_len] at hr; cases hr
    · rw [hother i hi] at e
      rw [hget_append_lt (hs.dom i L e)] at hr
      exact ⟨i, L, e, hr, h1, h2, h3⟩
theorem a_make1 {T E : TypeId} {x y : Operand} {k j : IntKind} {n : Int} {by_ i : Nat} {z v : Value} {us : List Value} {ti : TypeInfo} (hT : P.underlying T = some (.slice E)) (hi : ∀ w, (typeInfo E).run P w = .ok ti w) (hm : ∀ w, (sizeOf E).run P w = .ok 1 w)
    (hz : ∀ w, (zeroValue E).run P w = .ok z w) (hzc : z.cells.toList = [v]) (hf : flat0 v = true) (hb : ti.bytes = by_) (hby : Nat.ble by_ 65536 = true) (hx : aEv t x = some (.int k n)) (hy : aEv t y = some (.int j n)) (hn : 0 ≤ n ∧ n ≤ 4294967296) (hus : us = List.replicate n.toNat v) :
    AOk P N ⟨d, .makeSlice T x y, ty, pos, af, g⟩ t us i (.slice (some ⟨i, 0, none⟩) n.toNat n.toNat) := by
  subst hus
  have e : n = (n.toNat : Int) := by omega
  rw [e] at hx hy
  have hb' := Nat.le_of_ble_eq_true hby
  have := a_makeSlice (N := N) (d := d) (ty := ty) (pos := pos) (af := af) (g := g) (i := i) hx hy hT hi hm hz (by rw [hzc]; intro c hc; rw [List.mem_singleton.1 hc]; exact hf) (by rw [← Array.length_toList, hzc]; rfl) hb (Nat.le_refl _) (Nat.le_trans (Nat.mul_le_mul (show n.toNat ≤ 4294967296 by omega) hb') (by decide)) (by omega) Nat.one_pos
  rw [hzc, flatten_single'] at this
  exact this
theorem ints_rep {n : Nat} : ints (List.replicate n 0) = List.replicate n (.int .i64 0) := by simp [ints]
theorem s_makeMap {T : TypeId} {i : Nat} {H' : AHeap} (hi : H.length = i) (hH : H ++ [.map (ib [])] = H') : OpOk P N ⟨d, .makeMap T none, ty, pos, af, g⟩ t H (.map (some i)) H' := by
  subst hi; subst hH
  intro W φ w a hs he
  obtain ⟨φ', h1, h2, h3⟩ := mapnew_ok hs
  refine Does.of_value (v := .map (some w.heap.size)) (w' := w.alloc (.map #[] 0)) ?_ ⟨φ', h1, .map _ ⟨w.heap.size, 0, 1⟩ h3, h2⟩
  rfl
theorem s_mapEntry {T kt et : TypeId} {x y : Operand} {r : Nat} {k : Int} {l : List (Int × Bool)} {H' : AHeap} (hT : P.underlying T = some (.map kt et)) (hk : P.underlying kt = some (.int .i64)) (hz : ∀ w, (zeroValue et).run P w = .ok (.bool false) w)
    (hx : aEv t x = some (.map (some r))) (hy : aEv t y = some (.int .i64 k)) (hi : hget H r = .map (ib l)) (hH : H.set r (.map (ib (ment l k))) = H') :
    OpOk P N ⟨d, .mapEntry T x y, ty, pos, af, g⟩ t H (.tuple #[.bool (mb l k), .int .i64 (mi l k)]) H' := hH ▸ m_mapEntry hT hk hz hx hy hi
theorem s_entryStore {T : TypeId} {x y z : Operand} {r i : Nat} {b : Bool} {l : List (Int × Bool)} {H' : AHeap}
    (hx : aEv t x = some (.map (some r))) (hy : aEv t y = some (.int .i64 i)) (hz : aEv t z = some (.bool b)) (hi : hget H r = .map (ib l)) (hlt : i < l.length) (hH : H.set r (.map (ib (mst l i b))) = H') :
    OpOk P N ⟨d, .entryStore T x y z, ty, pos, af, g⟩ t H undef H' := hH ▸ m_entryStore hx hy hz hi hlt
end maps
end Go.Proofs.Ytocaepkkaihiiaa.Am
