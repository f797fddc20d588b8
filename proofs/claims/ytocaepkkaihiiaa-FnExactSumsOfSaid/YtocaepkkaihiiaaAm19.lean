/-
  Rules in the shape in which the second program prints them. No condition.
-/
import Derived.Test.YtocaepkkaihiiaaAm18
namespace Go.Proofs.Ytocaepkkaihiiaa.Am
open Go Go.RowKit
set_option linter.unusedVariables false
set_option linter.unusedSimpArgs false

def ExtG (H G : AHeap) : Prop := H.length ≤ G.length ∧ ∀ i, i < H.length → hget G i = hget H i
theorem ExtG.refl (H : AHeap) : ExtG H H := ⟨Nat.le_refl _, fun _ _ => rfl⟩
theorem St.ext {H G : AHeap} {L : List Sg} (S : St [] H G L) : ExtG H G := ⟨S.len, S.hold⟩
theorem ExtG.trans {H G K : AHeap} (h : ExtG H G) (k : ExtG G K) : ExtG H K := ⟨Nat.le_trans h.1 k.1, fun i hi => (k.2 i (Nat.lt_of_lt_of_le hi h.1)).trans (h.2 i hi)⟩
theorem ExtG.view {H G : AHeap} {p : Option Addr} {n c : Nat} {vs : List Value} (h : ExtG H G) (v : Vw H p n c vs) : Vw G p n c vs :=
  ⟨v.inn.more h.1, v.at_, fun j u e => by have h1 := v.get j u e; rw [hcell_same (h.2 _ (hcell_lt h1))]; exact h1⟩
theorem ExtG.tview {H G : AHeap} {T : Tb} (h : ExtG H G) (v : TVw H T) : TVw G T := fun x hx => h.view (v x hx)
theorem ExtG.get {H G : AHeap} {i : Nat} {ro : Bool} {cs : List Value} (h : ExtG H G) (e : hget H i = .row ro cs) : hget G i = .row ro cs := (h.2 i (row_lt e)).trans e
theorem St.old {M : List Nat} {H G : AHeap} {L : List Sg} {i : Nat} {ro : Bool} {cs : List Value} (S : St M H G L) (e : hget H i = .row ro cs) (hM : i ∉ M) : hget G i = .row ro cs := (S.frame i (row_lt e) hM).trans e
theorem St.omem {M : List Nat} {H G : AHeap} {L : List Sg} {k : Nat} {s : Sg} (S : St M H G L) (h : L[k]? = some s) : ∀ x ∈ s, x.1 < G.length ∧ hget G x.1 = x.2 := fun x hx => (S.own x (S.mem h hx)).2
theorem St.onodup {M : List Nat} {H G : AHeap} {L : List Sg} {k : Nat} {s : Sg} (S : St M H G L) (h : L[k]? = some s) : (s.map (·.1)).Nodup := by
  have n := S.nodup
  rw [(flat_at h).1, List.map_append, List.map_append] at n
  exact (List.nodup_append.1 (List.nodup_append.1 n).2.1).1

theorem z1 (k : Nat) : 0 + k * 1 = k := by omega
theorem o1 (o k : Nat) : o + k * 1 = o + k := by omega
theorem lt_len {α : Type} {l : List α} {n k : Nat} (h : l.length = n) (hk : k < n) : k < l.length := h ▸ hk
theorem len_set {α : Type} {l : List α} {n i : Nat} {x : α} (h : l.length = n) : (l.set i x).length = n := by rw [List.length_set]; exact h
theorem len_rep {α : Type} {n : Nat} {x : α} : (List.replicate n x).length = n := List.length_replicate
theorem len_app {α : Type} {a b : List α} {n k : Nat} (h : a.length = n) (h' : b.length = k) : n + k = (a ++ b).length := by rw [List.length_append, h, h']
theorem sl_n {p : Option Addr} {n n' c : Nat} (h : n = n') : Value.slice p n c = Value.slice p n' c := by rw [h]
theorem ints_len {l : List Int} {n : Nat} (h : l.length = n) : (ints l).length = n := by rw [ints_length]; exact h
theorem ints_len1 {l : List Int} {n : Nat} (h : l.length = n) : (ints l).length = n * 1 := by rw [ints_length, Nat.mul_one]; exact h
theorem flat_len1 {m n : Nat} {l : List (List Int)} (hA : All m l) (h : l.length = n) : (ints l.flatten).length = n * m := by rw [ints_length, flat_len hA, h]
theorem tc_len1 {T : Tb} {R : List (List Int)} {n : Nat} (hT : trows T = R) (h : R.length = n) : (tcells T).length = n * 1 := by rw [tcells_len, tlen hT, h, Nat.mul_one]
theorem vals_ne {vs : List Value} {n m k : Nat} (h : vs.length = n * m) (hk : k < n) (hm : 0 < m) : vs ≠ [] := fun e => by subst e; have := Nat.mul_pos (show 0 < n by omega) hm; simp at h; omega
theorem ne_get {vs : List Value} {j : Nat} {v : Value} (h : vs[j]? = some v) : vs ≠ [] := fun e => by subst e; simp at h
theorem Vw.p {G : AHeap} {p : Option Addr} {n c j : Nat} {vs : List Value} {v : Value} (h : Vw G p n c vs) (e : vs[j]? = some v) : p = some ⟨blk p, off p, none⟩ := h.at_ (ne_get e)
theorem Vw.row {G : AHeap} {p : Option Addr} {n c m k : Nat} {rs : List (List Int)} (h : Vw G p n c (ints rs.flatten)) (hA : All m rs) (hk : k < rs.length) : ∀ (j : Nat) v, (ints (rw_ rs k))[j]? = some v → hcell G (blk p) (off p + k * m + j) = some v :=
  fun j v e => by rw [Nat.add_assoc]; exact h.get _ _ (flat_cells hA hk j v e)
theorem Vw.rowne {G : AHeap} {p : Option Addr} {n c m k : Nat} {rs : List (List Int)} (h : Vw G p n c (ints rs.flatten)) (hA : All m rs) (hm : 0 < m) (hk : k < rs.length) : p = some ⟨blk p, off p, none⟩ :=
  h.p (flat_cells hA hk 0 _ (ints_get (by rw [rw_len hA hk]; exact hm)))
theorem tset_same {T : Tb} {j : Nat} {x y : Option Addr × Nat × List Int} (h : T[j]? = some x) : (T.set j y)[j]? = some y := by
  rw [List.getElem?_set_self]; exact (List.getElem?_eq_some_iff.1 h).1
theorem trows_set' {T : Tb} {R : List (List Int)} {j : Nat} {q : Option Addr} {c : Nat} {xs : List Int} (h : trows T = R) : trows (T.set j (q, c, xs)) = R.set j xs := by rw [trows_set, h]
theorem trows_add {T : Tb} {R : List (List Int)} {q : Option Addr} {c : Nat} {xs : List Int} (h : trows T = R) : trows (T ++ [(q, c, xs)]) = R ++ [xs] := by rw [trows_app, h]; rfl
theorem rw_set {R : List (List Int)} {j : Nat} {xs : List Int} (h : j < R.length) : rw_ (R.set j xs) j = xs := by
  unfold rw_; rw [List.getD_eq_getElem?_getD, List.getElem?_set_self h]; rfl

/-- bools -/
def bls (l : List Bool) : List Value := l.map .bool
def rdb (l : List Bool) (k : Nat) : Bool := l.getD k false
theorem bls_length (l : List Bool) : (bls l).length = l.length := by simp [bls]
theorem bls_len1 {l : List Bool} {n : Nat} (h : l.length = n) : (bls l).length = n * 1 := by rw [bls_length, Nat.mul_one]; exact h
theorem bls_get {l : List Bool} {k : Nat} (h : k < l.length) : (bls l)[k]? = some (.bool (rdb l k)) := by simp [bls, rdb, List.getD, List.getElem?_eq_getElem h]
theorem bls_set (l : List Bool) (k : Nat) (x : Bool) : (bls l).set k (.bool x) = bls (l.set k x) := by simp [bls, List.map_set]
theorem bls_one {l : List Bool} : ∀ v ∈ bls l, oneCell v = true := by
  intro v h
  obtain ⟨x, _, rfl⟩ := List.mem_map.1 h
  rfl

section rules
variable {P : Program} {N : Nat} {t : Env} {H : AHeap} {d : Option Tmp} {ty : TypeId} {pos : String} {af : Array Edge} {g : Option (Nat × Bool)}
theorem s_makeIntsE {T E : TypeId} {x y : Operand} {k j : IntKind} {n : Int} {by_ i : Nat} {z : Value} {ti : TypeInfo} {H' : AHeap} (hT : P.underlying T = some (.slice E)) (hi : ∀ w, (typeInfo E).run P w = .ok ti w) (hm : ∀ w, (sizeOf E).run P w = .ok 1 w)
    (hz : ∀ w, (zeroValue E).run P w = .ok z w) (hzc : z.cells.toList = ints [0]) (hb : ti.bytes = by_) (hby : Nat.ble by_ 65536 = true) (hx : aEv t x = some (.int k n)) (hy : aEv t y = some (.int j n)) (hn : 0 ≤ n ∧ n ≤ 4294967296)
    (hidx : H.length = i) (hH : H ++ [AObj.row false (ints (List.replicate n.toNat 0))] = H') : OpOk P N ⟨d, .makeSlice T x y, ty, pos, af, g⟩ t H (.slice (some ⟨i, 0, none⟩) n.toNat n.toNat) H' := by
  have e : n = (n.toNat : Int) := by omega
  rw [e] at hx hy
  have hb' := Nat.le_of_ble_eq_true hby
  exact s_makeInts hT hi hm hz hzc hb hx hy (Nat.le_refl _) (Nat.le_trans (Nat.mul_le_mul (show n.toNat ≤ 4294967296 by omega) hb') (by decide)) (by omega) hidx hH
theorem s_makeRowsE {T E : TypeId} {x y : Operand} {k j : IntKind} {n : Int} {by_ m i : Nat} {z : Value} {r : List Int} {ti : TypeInfo} {H' : AHeap} (hT : P.underlying T = some (.slice E)) (hi : ∀ w, (typeInfo E).run P w = .ok ti w) (hm : ∀ w, (sizeOf E).run P w = .ok m w)
    (hz : ∀ w, (zeroValue E).run P w = .ok z w) (hzc : z.cells.toList = ints r) (hr : r.length = m) (hb : ti.bytes = by_) (hby : Nat.ble by_ 65536 = true) (hx : aEv t x = some (.int k n)) (hy : aEv t y = some (.int j n)) (hn : 0 ≤ n ∧ n ≤ 4294967296) (hm0 : 0 < m)
    (hidx : H.length = i) (hH : H ++ [AObj.row false (ints (List.replicate n.toNat r).flatten)] = H') : OpOk P N ⟨d, .makeSlice T x y, ty, pos, af, g⟩ t H (.slice (some ⟨i, 0, none⟩) n.toNat n.toNat) H' := by
  have e : n = (n.toNat : Int) := by omega
  rw [e] at hx hy
  have hb' := Nat.le_of_ble_eq_true hby
  exact s_makeRows hT hi hm hz hzc hr hb hx hy (Nat.le_refl _) (Nat.le_trans (Nat.mul_le_mul (show n.toNat ≤ 4294967296 by omega) hb') (by decide)) (by omega) hm0 hidx hH
theorem flatten_single' {α : Type} : ∀ (c : Nat) (x : α), (List.replicate c [x]).flatten = List.replicate c x
  | 0, _ => rfl
  | c + 1, x => by rw [List.replicate_succ, List.replicate_succ, List.flatten_cons, flatten_single' c x]; rfl
theorem s_make1 {T E : TypeId} {x y : Operand} {k j : IntKind} {n : Int} {by_ i : Nat} {z v : Value} {us : List Value} {ti : TypeInfo} {H' : AHeap} (hT : P.underlying T = some (.slice E)) (hi : ∀ w, (typeInfo E).run P w = .ok ti w) (hm : ∀ w, (sizeOf E).run P w = .ok 1 w)
    (hz : ∀ w, (zeroValue E).run P w = .ok z w) (hzc : z.cells.toList = [v]) (hf : flat0 v = true) (hb : ti.bytes = by_) (hby : Nat.ble by_ 65536 = true) (hx : aEv t x = some (.int k n)) (hy : aEv t y = some (.int j n)) (hn : 0 ≤ n ∧ n ≤ 4294967296) (hus : us = List.replicate n.toNat v)
    (hidx : H.length = i) (hH : H ++ [AObj.row false us] = H') : OpOk P N ⟨d, .makeSlice T x y, ty, pos, af, g⟩ t H (.slice (some ⟨i, 0, none⟩) n.toNat n.toNat) H' := by
  subst hidx hH hus
  have e : n = (n.toNat : Int) := by omega
  rw [e] at hx hy
  have hb' := Nat.le_of_ble_eq_true hby
  have := m_makeSlice (N := N) (d := d) (ty := ty) (pos := pos) (af := af) (g := g) (H := H) hx hy hT hi hm hz (by rw [hzc]; intro c hc; rw [List.mem_singleton.1 hc]; exact hf) (by rw [← Array.length_toList, hzc]; rfl) hb (Nat.le_refl _) (Nat.le_trans (Nat.mul_le_mul (show n.toNat ≤ 4294967296 by omega) hb') (by decide)) (by omega) Nat.one_pos
  rw [hzc, flatten_single'] at this
  exact this
/-- a struct of one-cell fields, written out -/
theorem fill_congr {f g : Nat → Option (Nat × Nat)} : ∀ (ps : List (Nat × Value)) (cells : Array Value), (∀ p ∈ ps, f p.1 = g p.1) → Instr.fill f cells ps = Instr.fill g cells ps
  | [], cells, _ => rfl
  | (i, v) :: rest, cells, h => by
    have h1 := h (i, v) (List.mem_cons_self ..)
    dsimp only at h1
    unfold Instr.fill
    rw [h1]
    split
    · rfl
    · split
      · rfl
      · exact fill_congr rest _ (fun p hp => h p (List.mem_cons_of_mem _ hp))
theorem p_build2 {T : TypeId} {fs : Array Field} {f0 f1 : Field} {z0 z1 : Value} {ps : List (Nat × Operand)} {vs : List (Nat × Value)} {cs : List Value} (hT : P.underlying T = some (.struct fs)) (hfs : fs = #[f0, f1]) (ho0 : f0.offset = 0) (ho1 : f1.offset = 1)
    (hm0 : ∀ w, (sizeOf f0.type).run P w = .ok 1 w) (hm1 : ∀ w, (sizeOf f1.type).run P w = .ok 1 w) (hz : ∀ w, (zeroValue T).run P w = .ok (.agg #[z0, z1]) w) (hf0 : flat0 z0 = true) (hf1 : flat0 z1 = true)
    (hp : ps.map (fun p => (p.1, aEv t p.2)) = vs.map (fun p => (p.1, some p.2))) (hlt : (vs.all fun p => Nat.blt p.1 2) = true) (hcs : partsOf 1 vs [z0, z1] = some cs) : PureOk P N ⟨d, .build T ps.toArray, ty, pos, af, g⟩ t (.agg cs.toArray) := by
  intro φ w a he
  obtain ⟨q1, q2⟩ := parts_rel hp he
  obtain ⟨cs', k1, k2, k3⟩ := fill_ok (φ := φ) (m := 1) vs (ps.map fun p => (p.1, a.eval p.2)) [z0, z1] [z0, z1] cs q1 q2 rfl (flat_self (by intro c hc; simp at hc; rcases hc with rfl | rfl <;> assumption)) hcs
  have hpl : ((fs.mapM fun f => (do pure (f.offset, ← sizeOf f.type) : Sem (Nat × Nat))).run P w) = .ok #[(0, 1), (1, 1)] w := by
    subst hfs; simp [hm0, hm1, ho0, ho1]
  have hall : ∀ p ∈ (ps.map fun p => (p.1, a.eval p.2)), ((#[(0, 1), (1, 1)] : Array (Nat × Nat))[p.1]?) = some (p.1 * 1, 1) := by
    intro p hp'
    obtain ⟨i, hi, e⟩ := List.getElem_of_mem hp'
    have hi2 : i < vs.length := by rw [q1]; exact hi
    have h1 := q2 i vs[i] _ (List.getElem?_eq_getElem hi2) (List.getElem?_eq_getElem hi)
    rw [List.all_eq_true] at hlt
    have h2 := hlt _ (List.getElem_mem hi2)
    rw [Nat.blt_eq] at h2
    rw [e] at h1
    rw [← h1.1]
    generalize vs[i].1 = n at h2
    match n, h2 with
    | 0, _ => rfl
    | 1, _ => rfl
  refine ⟨.agg cs'.toArray, ?_, .agg _ _ (by simpa using k2) fun j c c' e e' => k3 j c c' (by simpa using e) (by simpa using e')⟩
  have e1 := (fill_congr (f := fun i => (#[(0, 1), (1, 1)] : Array (Nat × Nat))[i]?) (g := fun i => some (i * 1, 1)) _ ([z0, z1] : List Value).toArray hall).trans k1
  have step : (Instr.build T ((ps.map (fun p => (p.1, a.eval p.2))).toArray)).run P w = .ok (.agg cs'.toArray) w := by
    unfold Instr.build
    simp only [Sem.run_bind, hz, Result.andThen_ok, run_underlying hT, hpl]
    have : (Value.agg #[z0, z1]).cells = ([z0, z1] : List Value).toArray := rfl
    rw [this]
    simp only [e1]
    rfl
  simp only [execOp, Sem.run_bind]
  rw [show (Array.map (fun (x : Nat × Operand) => match x with | (i, x) => (i, a.eval x)) ps.toArray) = (ps.map (fun p => (p.1, a.eval p.2))).toArray from by simp, step]
  rfl
/-- an array of zeros -/
theorem p_buildZ {T E : TypeId} {len m : Nat} {z : List Value} (hT : P.underlying T = some (.array len E)) (hm : ∀ w, (sizeOf E).run P w = .ok m w) (hz : ∀ w, (zeroValue T).run P w = .ok (.agg z.toArray) w) (hf : z.all flat0 = true) :
    PureOk P N ⟨d, .build T #[], ty, pos, af, g⟩ t (.agg z.toArray) := by
  intro φ w a he
  refine ⟨.agg z.toArray, ?_, V.flat (.agg _ fun i v h => flat0_ok (List.all_eq_true.1 hf v (by simpa using Array.mem_of_getElem? h)))⟩
  simp [execOp, Instr.build, hz, run_underlying hT, hm, Instr.fill, Value.cells]
theorem p_nilCheck {x : Operand} {i o : Nat} (hx : aEv t x = some (.pointer (some ⟨i, o, none⟩))) : PureOk P N ⟨d, .nilCheck x, ty, pos, af, g⟩ t (.pointer (some ⟨i, o, none⟩)) := p_nilCheck_ptr hx
theorem s_indexV {T : TypeId} {x y : Operand} {E : TypeId} {m q : Nat} {k : IntKind} {n : Int} {i o len c : Nat} {p : Option Addr} (hT : P.underlying T = some (.slice E)) (hm : ∀ w, (sizeOf E).run P w = .ok m w) (hx : aEv t x = some (.slice p len c)) (hp : p = some ⟨i, o, none⟩) (hy : aEv t y = some (.int k n))
    (hn : inR n len) (hq : o + n.toNat * m = q) : PureOk P N ⟨d, .indexAddr T x y, ty, pos, af, g⟩ t (.pointer (some ⟨i, q, none⟩)) := s_indexP hT hm hx hp hy hn.1 hn.2 hq
theorem s_indexAr {T : TypeId} {x y : Operand} {E : TypeId} {len m q : Nat} {k : IntKind} {n : Int} {i o : Nat} (hT : P.underlying T = some (.array len E)) (hm : ∀ w, (sizeOf E).run P w = .ok m w) (hx : aEv t x = some (.pointer (some ⟨i, o, none⟩))) (hy : aEv t y = some (.int k n))
    (hn : inR n len) (hq : o + n.toNat * m = q) : PureOk P N ⟨d, .indexAddr T x y, ty, pos, af, g⟩ t (.pointer (some ⟨i, q, none⟩)) := s_indexArr hT hm hx hy hn.1 hn.2 hq
theorem s_indexAv {T : TypeId} {x y : Operand} {E : TypeId} {len : Nat} {k : IntKind} {n : Int} {xs : List Int} (hT : P.underlying T = some (.array len E)) (hm : ∀ w, (sizeOf E).run P w = .ok 1 w) (hE : ∀ w, (isAgg E).run P w = .ok false w)
    (hx : aEv t x = some (.agg (ints xs).toArray)) (hy : aEv t y = some (.int k n)) (hn : inR n len) (hl : xs.length = len) : PureOk P N ⟨d, .index T x y, ty, pos, af, g⟩ t (.int .i64 (rd xs n.toNat)) :=
  s_indexA (q := n.toNat) hT hm hE hx hy hn.1 hn.2 (by omega) (by simpa using ints_get (lt_len hl (inR_lt hn)))
theorem p_addE {xT yT : TypeId} {x y : Operand} {a b : Int} (hx : aEv t x = some (.int .i64 a)) (hy : aEv t y = some (.int .i64 b)) (h : in64 (a + b)) : PureOk P N ⟨d, .binOp .add xT x y yT, ty, pos, af, g⟩ t (.int .i64 (a + b)) := p_add hx hy (in64_wr h)
theorem p_subE {xT yT : TypeId} {x y : Operand} {a b : Int} (hx : aEv t x = some (.int .i64 a)) (hy : aEv t y = some (.int .i64 b)) (h : in64 (a - b)) : PureOk P N ⟨d, .binOp .sub xT x y yT, ty, pos, af, g⟩ t (.int .i64 (a - b)) := p_sub hx hy (in64_wr h)
theorem p_mulE {xT yT : TypeId} {x y : Operand} {a b : Int} (hx : aEv t x = some (.int .i64 a)) (hy : aEv t y = some (.int .i64 b)) (h : in64 (a * b)) : PureOk P N ⟨d, .binOp .mul xT x y yT, ty, pos, af, g⟩ t (.int .i64 (a * b)) := p_mul hx hy (in64_wr h)
theorem p_quoE {xT yT : TypeId} {x y : Operand} {a b : Int} (hx : aEv t x = some (.int .i64 a)) (hy : aEv t y = some (.int .i64 b)) (h : b ≠ 0 ∧ in64 (a.tdiv b)) : PureOk P N ⟨d, .binOp .quo xT x y yT, ty, pos, af, g⟩ t (.int .i64 (a.tdiv b)) := p_quo hx hy h.1 (in64_wr h.2)
theorem p_remE {xT yT : TypeId} {x y : Operand} {a b : Int} (hx : aEv t x = some (.int .i64 a)) (hy : aEv t y = some (.int .i64 b)) (h : b ≠ 0) : PureOk P N ⟨d, .binOp .rem xT x y yT, ty, pos, af, g⟩ t (.int .i64 (a.tmod b)) := p_rem hx hy h rfl
theorem p_negE {xT : TypeId} {x : Operand} {a : Int} (hx : aEv t x = some (.int .i64 a)) (h : in64 (0 - a)) : PureOk P N ⟨d, .unOp .neg xT x, ty, pos, af, g⟩ t (.int .i64 (0 - a)) := p_neg hx (in64_wr h)
theorem p_convE {src dst : TypeId} {dS : TypeDesc} {x : Operand} {a : Int} (hS : P.underlying src = some dS) (hD : P.underlying dst = some (.int .i64)) (hx : aEv t x = some (.int .i64 a)) (h : in64 a) : PureOk P N ⟨d, .convert src dst x, ty, pos, af, g⟩ t (.int .i64 a) := p_conv hS hD hx (in64_wr h)
end rules

/-! ### orders that are open -/
def pairOk (es : List Ev) (k u : Nat) : Prop :=
  match es[k]?, es[u]? with
  | some e, some f => (match e.kd with
    | .read cs => ∀ c ∈ cs, c.1 < f.H.length → hget f.H' c.1 = hget f.H c.1
    | .alloc _ => k < u → hget f.H' e.H.length = hget f.H e.H.length
    | _ => True)
  | _, _ => True
def pairsAll (es : List Ev) : List (Nat × Nat) → Prop
  | [] => True
  | (k, u) :: r => pairOk es k u ∧ pairsAll es r
def ordPs (ops : List Oper) (wr ra : List Bool) (ps : List (Nat × Nat)) : Bool :=
  let bef := befAll ops
  (List.range ra.length).all fun k => !(ra.getD k false) || (List.range wr.length).all fun u => !(wr.getD u false) || (bef.getD u []).contains k || (bef.getD k []).contains u || ps.any (fun p => p.1 == k && p.2 == u)
theorem dyn_pairs {ops : List Oper} {es : List Ev} (ps : List (Nat × Nat)) (h : ordPs ops (es.map fun e => e.kd.isWrite) (es.map fun e => e.kd.isRA) ps = true) (hp : pairsAll es ps) : dynOk ops es := by
  have hmem : ∀ p ∈ ps, pairOk es p.1 p.2 := by
    clear h
    induction ps with
    | nil => intro p h; cases h
    | cons q r ih =>
      obtain ⟨a, b⟩ := q
      intro p h
      rcases List.mem_cons.1 h with rfl | h
      · exact hp.1
      · exact ih hp.2 p h
  intro k e hk u f hu hf hun
  unfold ordPs at h
  rw [List.all_eq_true] at h
  have hkl : k < es.length := (List.getElem?_eq_some_iff.1 hk).1
  have hul : u < es.length := (List.getElem?_eq_some_iff.1 hu).1
  have h1 := h k (List.mem_range.2 (by rw [List.length_map]; exact hkl))
  rw [Bool.or_eq_true, List.all_eq_true] at h1
  have e1 : (es.map fun e => e.kd.isRA).getD k false = e.kd.isRA := by rw [List.getD_eq_getElem?_getD, List.getElem?_map, hk]; rfl
  have e2 : (es.map fun e => e.kd.isWrite).getD u false = true := by rw [List.getD_eq_getElem?_getD, List.getElem?_map, hu]; show f.kd.isWrite = true; rw [hf]; rfl
  rcases h1 with h1 | h1
  · rw [e1] at h1
    cases hkd : e.kd <;> dsimp only <;> (rw [hkd] at h1; cases h1)
  · have h2 := h1 u (List.mem_range.2 (by rw [List.length_map]; exact hul))
    rw [e2] at h2
    simp only [Bool.not_true, Bool.false_or, Bool.or_eq_true, List.contains_iff_mem] at h2
    rcases h2 with h2 | h2
    · exact absurd h2 (not_or.2 hun)
    · obtain ⟨p, hp1, hp2⟩ := List.any_eq_true.1 h2
      rw [Bool.and_eq_true, beq_iff_eq, beq_iff_eq] at hp2
      have := hmem p hp1
      rw [hp2.1, hp2.2] at this
      unfold pairOk at this
      rw [hk, hu] at this
      exact this
theorem rd1 {G G' : AHeap} {i o : Nat} {v : Value} (h : i < G.length → hget G' i = hget G i) : ∀ c ∈ [(i, o, v)], c.1 < G.length → hget G' c.1 = hget G c.1 := by
  intro c hc; rw [List.mem_singleton.1 hc]; exact h
theorem rdN {G G' : AHeap} {i o : Nat} {vs : List Value} (h : i < G.length → hget G' i = hget G i) : ∀ c ∈ cellsFrom i o vs, c.1 < G.length → hget G' c.1 = hget G c.1 := by
  intro c hc; obtain ⟨_, _, e, _⟩ := of_mem_cellsFrom vs o c hc; rw [e]; exact h
theorem many_row {H : AHeap} {i o n : Nat} {vs : List Value} (h : ∀ (j : Nat) v, vs[j]? = some v → hcell H i (o + j) = some v) (hf : ∀ v ∈ vs, Bel n v) : ∀ c ∈ cellsFrom i o vs, hcell H c.1 c.2.1 = some c.2.2 ∧ Bel n c.2.2 := many_bel h hf
theorem bel_ints {n : Nat} {l : List Int} : ∀ v ∈ ints l, Bel n v := fun v h => .of_flat0 (ints_flat v h)
end Go.Proofs.Ytocaepkkaihiiaa.Am
