/-
  The entry: a call's arguments, read by their types, as values over an abstract memory of rows that are only read. No condition.
-/
import Derived.Test.YtocaepkkaihiiaaAm8d
import Derived.Carry
import Derived.OpenShut
import Derived.ChangeOld
import Derived.DataReads
namespace Go.Proofs.Ytocaepkkaihiiaa.Am
open Go Go.RowKit Go.ChangeShapes Go.WideShapes
set_option linter.unusedVariables false
set_option linter.unusedSimpArgs false

def Seg (cs : List Value) (o m : Nat) : List Value := (cs.drop o).take m
def consec (P : Program) : Nat → List (Nat × TypeId) → Nat → Bool
  | o, [], total => o == total
  | o, (o', t) :: rest, total => o' == o && consec P (o + P.cellsOf t) rest total
/-- The types that are served: bool, int, string, slice, struct, array. -/
def plainT (P : Program) : Nat → TypeId → Bool
  | 0, _ => false
  | n + 1, t => match P.underlying t with
    | some .bool | some (.int _) | some .string => P.cellsOf t == 1
    | some (.slice e) => P.cellsOf t == 1 && decide (0 < P.cellsOf e) && plainT P n e
    | some (.struct fs) => consec P 0 (fs.toList.map fun f => (f.offset, f.type)) (P.cellsOf t) && fs.toList.all fun f => plainT P n f.type
    | some (.array k e) => k * P.cellsOf e == P.cellsOf t && plainT P n e
    | _ => false
/-- Cells of a type, read over an abstract memory. -/
def aok (P : Program) (H : AHeap) : Nat → TypeId → List Value → Prop
  | 0, _, _ => False
  | n + 1, t, cs => match P.underlying t with
    | some .bool => ∃ b, cs = [.bool b]
    | some (.int k) => ∃ x, cs = [.int k x] ∧ (Lit.int k x).wf = true
    | some .string => ∃ s : ByteArray, cs = [.string s] ∧ s.size ≤ maxLen
    | some (.slice e) => ∃ i len cap cells, cs = [.slice (some ⟨i, 0, none⟩) len cap] ∧ len ≤ maxLen ∧ i < H.length ∧ hget H i = .row true cells ∧ cells.length = len * P.cellsOf e ∧
        ∀ j, j < len → aok P H n e (Seg cells (j * P.cellsOf e) (P.cellsOf e))
    | some (.struct fs) => cs.length = P.cellsOf t ∧ ∀ f ∈ fs.toList, aok P H n f.type (Seg cs f.offset (P.cellsOf f.type))
    | some (.array k e) => cs.length = P.cellsOf t ∧ ∀ j, j < k → aok P H n e (Seg cs (j * P.cellsOf e) (P.cellsOf e))
    | _ => False
theorem aok_more {P : Program} {H l : AHeap} : ∀ {n : Nat} {t : TypeId} {cs : List Value}, aok P H n t cs → aok P (H ++ l) n t cs := by
  intro n
  induction n with
  | zero => intro t cs h; exact h
  | succ n ih =>
    intro t cs h
    unfold aok at h ⊢
    split at h <;> try exact h
    · obtain ⟨i, len, cap, cells, h1, h2, h3, h4, h5, h6⟩ := h
      exact ⟨i, len, cap, cells, h1, h2, by rw [List.length_append]; omega, by rw [hget_append_lt h3]; exact h4, h5, fun j hj => ih (h6 j hj)⟩
    · exact ⟨h.1, fun f hf => ih (h.2 f hf)⟩
    · exact ⟨h.1, fun j hj => ih (h.2 j hj)⟩

def AllRo (H : AHeap) : Prop := ∀ i, i < H.length → ∃ cs, hget H i = .row true cs

theorem Sim.nil (W : World) : Sim W (fun _ => none) [] W := ⟨fun _ _ h => (nomatch h), fun _ _ h => (nomatch h), fun _ _ _ _ _ h => (nomatch h), fun _ _ _ _ _ h => (nomatch h), Below.refl _ _⟩
theorem AllRo.push {H : AHeap} (h : AllRo H) (cs : List Value) : AllRo (H ++ [.row true cs]) := by
  intro i hi
  rcases Nat.lt_or_ge i H.length with h1 | h1
  · rw [hget_append_lt h1]; exact h i h1
  · rw [List.length_append, List.length_singleton] at hi
    obtain rfl : i = H.length := by omega
    exact ⟨cs, by rw [hget_append_ge (Nat.le_refl _), Nat.sub_self]; rfl⟩
theorem hget_last (H : AHeap) (o : AObj) : hget (H ++ [o]) H.length = o := by rw [hget_append_ge (Nat.le_refl _), Nat.sub_self]; rfl
theorem AllRo.notRow {H : AHeap} (h : AllRo H) (i : Nat) : (hget H i).isRow = false ∧ (hget H i).isMap = false := by
  rcases Nat.lt_or_ge i H.length with h1 | h1
  · obtain ⟨cs, e⟩ := h i h1; rw [e]; exact ⟨rfl, rfl⟩
  · rw [hget_ge h1]; exact ⟨rfl, rfl⟩
/-- a slice without elements -/
theorem Sim.pushEmpty {W : World} {φ : Phi} {H : AHeap} (hs : Sim W φ H W) (hr : AllRo H) (cs : List Value) : Sim W φ (H ++ [.row true cs]) W := by
  refine ⟨fun i L e => by rw [List.length_append]; have := hs.dom i L e; omega, fun i L e => ?_, fun i j L M _ _ _ h => ?_, fun i j L M _ _ _ h => ?_, hs.base⟩
  · rw [hget_append_lt (hs.dom i L e)]; exact hs.obj i L e
  · rw [((hr.push cs).notRow i).1] at h; cases h
  · rw [((hr.push cs).notRow i).2] at h; cases h
theorem Sim.pushRo {W : World} {φ : Phi} {H : AHeap} (hs : Sim W φ H W) (hr : AllRo H) {L : Loc} {cs : List Value} (hb : L.block < W.heap.size) (hf : cs.length ≤ L.ext)
    (hc : ∀ (j : Nat) c, cs[j]? = some c → ∃ c', W.cell? ⟨L.block, L.off + j, none⟩ = some c' ∧ V φ c c') : Sim W (fun i => if i = H.length then some L else φ i) (H ++ [.row true cs]) W := by
  have hm : ∀ i M, φ i = some M → (if i = H.length then some L else φ i) = some M := fun i M e => by
    rw [if_neg (by have := hs.dom i M e; omega)]; exact e
  refine ⟨fun i M e => ?_, fun i M e => ?_, fun i j L M _ _ _ h => ?_, fun i j L M _ _ _ h => ?_, hs.base⟩
  · rw [List.length_append, List.length_singleton]
    by_cases h : i = H.length
    · omega
    · rw [if_neg h] at e; have := hs.dom i M e; omega
  · by_cases h : i = H.length
    · subst h
      rw [if_pos rfl] at e
      obtain rfl := Option.some.inj e
      rw [hget_last]
      exact ⟨hf, fun j c e => by obtain ⟨c', h1, h2⟩ := hc j c e; exact ⟨c', h1, h2.mono hm⟩, fun _ => hb, fun h => (nomatch h), fun h => (nomatch h)⟩
    · rw [if_neg h] at e
      rw [hget_append_lt (hs.dom i M e)]
      have := hs.obj i M e
      obtain ⟨cs', e'⟩ := hr i (hs.dom i M e)
      rw [e'] at this ⊢
      exact ⟨this.fits, fun j c e => by obtain ⟨c', h1, h2⟩ := this.reads j c e; exact ⟨c', h1, h2.mono hm⟩, this.old, this.own, this.there⟩
  · rw [((hr.push cs).notRow i).1] at h; cases h
  · rw [((hr.push cs).notRow i).2] at h; cases h

/-- Where the entry has got to: more memory, more places. -/
structure Got (W : World) (φ : Phi) (H : AHeap) (φ' : Phi) (l : AHeap) : Prop where
  mono : ∀ i L, φ i = some L → φ' i = some L
  sim : Sim W φ' (H ++ l) W
  ro : AllRo (H ++ l)

variable {K : Type} {enc : TypeId × Value → K} {P : Program}
def One (enc : TypeId × Value → K) (P : Program) (W : World) (k : Nat) (t : TypeId) (cs : List Value) : Prop :=
  ∀ φ H, Sim W φ H W → AllRo H → ∃ φ' l acs, Got W φ H φ' l ∧ acs.length = cs.length ∧ (∀ (j : Nat) v v', acs[j]? = some v → cs[j]? = some v' → V φ' v v') ∧ aok P (H ++ l) k t acs

theorem seg_app {a b : List Value} {o m : Nat} (h : a.length ≤ o) : Seg (a ++ b) o m = Seg b (o - a.length) m := by
  unfold Seg; rw [List.drop_append_of_le_length' h]
 where
  List.drop_append_of_le_length' {a b : List Value} {o : Nat} (h : a.length ≤ o) : (a ++ b).drop o = b.drop (o - a.length) := by
    rw [List.drop_append]; rw [List.drop_of_length_le h]; rfl
theorem seg_first {a b : List Value} : Seg (a ++ b) 0 a.length = a := by unfold Seg; simp

theorem consec_le {P : Program} : ∀ {tiles : List (Nat × TypeId)} {o total : Nat}, consec P o tiles total = true → o ≤ total ∧ ∀ p ∈ tiles, o ≤ p.1 ∧ p.1 + P.cellsOf p.2 ≤ total := by
  intro tiles
  induction tiles with
  | nil => intro o total h; simp only [consec, beq_iff_eq] at h; exact ⟨by omega, fun p h => by cases h⟩
  | cons q rest ih =>
    intro o total h
    obtain ⟨o', t⟩ := q
    simp only [consec, Bool.and_eq_true, beq_iff_eq] at h
    obtain ⟨rfl, h⟩ := h
    obtain ⟨h1, h2⟩ := ih h
    refine ⟨by omega, fun p hp => ?_⟩
    rcases List.mem_cons.1 hp with rfl | hp
    · exact ⟨Nat.le_refl _, by omega⟩
    · have := h2 p hp; omega
theorem consec_rep {P : Program} {e : TypeId} : ∀ (k s : Nat), consec P (s * P.cellsOf e) ((List.range' s k).map fun i => (i * P.cellsOf e, e)) ((s + k) * P.cellsOf e) = true := by
  intro k
  induction k with
  | zero => intro s; simp [consec]
  | succ k ih =>
    intro s
    simp only [List.range'_succ, List.map_cons, consec, Bool.and_eq_true, beq_iff_eq, true_and]
    have := ih (s + 1)
    rw [show s * P.cellsOf e + P.cellsOf e = (s + 1) * P.cellsOf e by rw [Nat.add_mul, Nat.one_mul], show s + (k + 1) = s + 1 + k by omega]
    exact this

theorem ents {W : World} {k : Nat} {full : List Value} : ∀ (tiles : List (Nat × TypeId)) (o : Nat), consec P o tiles full.length = true → (∀ p ∈ tiles, One enc P W k p.2 (Seg full p.1 (P.cellsOf p.2))) →
    ∀ φ H, Sim W φ H W → AllRo H → ∃ φ' l acs, Got W φ H φ' l ∧ acs.length + o = full.length ∧ (∀ (j : Nat) v v', acs[j]? = some v → full[o + j]? = some v' → V φ' v v') ∧ ∀ p ∈ tiles, aok P (H ++ l) k p.2 (Seg acs (p.1 - o) (P.cellsOf p.2)) := by
  intro tiles
  induction tiles with
  | nil =>
    intro o hc _ φ H hs hr
    simp only [consec, beq_iff_eq] at hc
    exact ⟨φ, [], [], ⟨fun _ _ h => h, by rw [List.append_nil]; exact hs, by rw [List.append_nil]; exact hr⟩, by simp [hc], fun j v v' h => by simp at h, fun p h => by cases h⟩
  | cons q rest ih =>
    intro o hc hone φ H hs hr
    obtain ⟨o', t⟩ := q
    have hc0 := hc
    simp only [consec, Bool.and_eq_true, beq_iff_eq] at hc
    obtain ⟨rfl, hc⟩ := hc
    have hle := (consec_le hc0).2 (o', t) (List.mem_cons_self ..)
    obtain ⟨φ1, l1, a1, g1, n1, v1, k1⟩ := hone (o', t) (List.mem_cons_self ..) φ H hs hr
    obtain ⟨φ2, l2, a2, g2, n2, v2, k2⟩ := ih (o' + P.cellsOf t) hc (fun p hp => hone p (List.mem_cons_of_mem _ hp)) φ1 (H ++ l1) g1.sim g1.ro
    have hn1 : a1.length = P.cellsOf t := by
      rw [n1]; unfold Seg; simp only [List.length_take, List.length_drop]; omega
    refine ⟨φ2, l1 ++ l2, a1 ++ a2, ⟨fun i L h => g2.mono i L (g1.mono i L h), by rw [← List.append_assoc]; exact g2.sim, by rw [← List.append_assoc]; exact g2.ro⟩, by rw [List.length_append]; omega, fun j v v' e e' => ?_, fun p hp => ?_⟩
    · rcases Nat.lt_or_ge j a1.length with hj | hj
      · rw [List.getElem?_append_left hj] at e
        refine (v1 j v v' e ?_).mono g2.mono
        unfold Seg
        rw [List.getElem?_take, if_pos (by simpa using (by omega : j < P.cellsOf t)), List.getElem?_drop]; exact e'
      · rw [List.getElem?_append_right hj] at e
        exact v2 _ v v' e (by rw [← e']; congr 1; omega)
    · rw [← List.append_assoc]
      rcases List.mem_cons.1 hp with rfl | hp
      · have : Seg (a1 ++ a2) (o' - o') (P.cellsOf t) = a1 := by rw [Nat.sub_self, ← hn1]; exact seg_first
        show aok P _ k t (Seg (a1 ++ a2) (o' - o') (P.cellsOf t))
        rw [this]; exact aok_more k1
      · have h1 := ((consec_le hc).2 p hp).1
        rw [seg_app (by omega)]
        have := k2 p hp
        rw [show p.1 - (o' + P.cellsOf t) = p.1 - o' - a1.length by omega] at this
        exact this

theorem cells_of {w : World} {base : Nat} {a : Addr} {n : Nat} {cs : List Value} (h : w.cells? base a n = some cs) : cs.length = n ∧ ∀ i, i < n → w.cell? (a.add i) = cs[i]? := by
  unfold World.cells? at h
  split at h
  · exact ⟨by simpa using mapM_some_length h, fun i hi => mapM_some_get h i i (by simp [hi])⟩
  · cases h

theorem cell_spot {w : World} {a : Addr} {v : Value} (h : w.cell? a = some v) : a.spot = none ∧ a.block < w.heap.size := by
  unfold World.cell? at h
  split at h
  · rename_i c _ _ hb
    refine ⟨?_, ?_⟩
    · cases hs : a.spot with
      | none => rfl
      | some x => rw [hs] at h; simp at h
    · have := (Array.getElem?_eq_some_iff.1 hb).1; exact this
  · cases h

theorem ent {W : World} : ∀ (k : Nat) (t : TypeId) (fuel : Nat) (cs : List Value) (x : DataW K × List MemPlace), plainT P k t = true → DataW.trod enc P W 0 (fun _ => true) true fuel t cs = some x → One enc P W k t cs := by
  intro k
  induction k with
  | zero => intro t fuel cs x h; simp [plainT] at h
  | succ k ih =>
    intro t fuel cs x hp hx φ H hs hr
    have flat : (∀ v ∈ cs, Flat v) → aok P (H ++ []) (k + 1) t cs → ∃ φ' l acs, Got W φ H φ' l ∧ acs.length = cs.length ∧ (∀ (j : Nat) v v', acs[j]? = some v → cs[j]? = some v' → V φ' v v') ∧ aok P (H ++ l) (k + 1) t acs := fun hf ha =>
      ⟨φ, [], cs, ⟨fun _ _ h => h, by rw [List.append_nil]; exact hs, by rw [List.append_nil]; exact hr⟩, rfl, fun j v v' e e' => by rw [e] at e'; obtain rfl := Option.some.inj e'; exact V.flat (hf v (List.mem_of_getElem? e)), ha⟩
    unfold plainT at hp
    split at hp
    · rename_i hu
      obtain ⟨b, rfl, _⟩ := DataW.trod_bool hu hx
      exact flat (fun v h => by simp at h; subst h; exact .bool b) (by unfold aok; rw [hu]; exact ⟨b, rfl⟩)
    · rename_i kk hu
      obtain ⟨n, rfl, _, hw⟩ := DataW.trod_int hu hx
      exact flat (fun v h => by simp at h; subst h; exact .int _ n) (by unfold aok; rw [hu]; exact ⟨n, rfl, hw⟩)
    · rename_i hu
      obtain ⟨s, rfl, _, hw⟩ := DataW.trod_string hu hx
      exact flat (fun v h => by simp at h; subst h; exact .string s) (by unfold aok; rw [hu]; exact ⟨s, rfl, hw⟩)
    · rename_i e hu
      simp only [Bool.and_eq_true, decide_eq_true_eq, beq_iff_eq] at hp
      obtain ⟨⟨_, hm⟩, hpe⟩ := hp
      have empty : ∀ (a : Option Addr) (c' : Nat), cs = [.slice a 0 c'] → ∃ φ' l acs, Got W φ H φ' l ∧ acs.length = cs.length ∧ (∀ (j : Nat) v v', acs[j]? = some v → cs[j]? = some v' → V φ' v v') ∧ aok P (H ++ l) (k + 1) t acs := by
        rintro a c' rfl
        refine ⟨φ, [.row true []], [.slice (some ⟨H.length, 0, none⟩) 0 capE], ⟨fun _ _ h => h, hs.pushEmpty hr [], hr.push []⟩, rfl, fun j v v' e1 e2 => ?_, ?_⟩
        · cases j with
          | zero => simp at e1 e2; subst e1 e2; exact .empty _ _ _ _
          | succ j => simp at e1
        · unfold aok; rw [hu]
          exact ⟨H.length, 0, capE, [], rfl, by decide, by simp, hget_last _ _, by simp, fun j hj => absurd hj (Nat.not_lt_zero _)⟩
      rcases DataW.trod_slice hu hx with ⟨rfl, _⟩ | ⟨a, len, cap, elems, rest, n, _, rfl, _, hb, hlc, hcm, hel, hget, _, _⟩
      · exact empty none 0 rfl
      rcases Nat.eq_zero_or_pos len with rfl | hpos
      · exact empty (some a) cap rfl
      -- the cells of the elements
      have hseg : ∀ i, i < len → ∃ cs', W.cells? 0 (a.add (i * P.cellsOf e)) (P.cellsOf e) = some cs' ∧ ∃ y, DataW.trod enc P W 0 (fun _ => true) true n e cs' = some y := by
        intro i hi
        have h1 := hget i hi
        rw [List.getElem?_eq_getElem (by omega)] at h1
        obtain ⟨cs', h2, h3⟩ := Option.bind_eq_some_iff.1 h1
        exact ⟨cs', h2, _, h3⟩
      obtain ⟨cs0, h00, _⟩ := hseg 0 hpos
      have hz := (cells_of h00).2 0 hm
      rw [List.getElem?_eq_getElem (by rw [(cells_of h00).1]; exact hm)] at hz
      obtain ⟨hspot, hblk⟩ := cell_spot hz
      rw [show (a.add (0 * P.cellsOf e)).add 0 = a by simp [Addr.add]] at hspot hblk
      obtain ⟨b, off, spot⟩ := a
      simp only at hspot hblk
      subst hspot
      have hfull : ∃ full : List Value, full.length = len * P.cellsOf e ∧ ∀ j, j < len * P.cellsOf e → W.cell? ⟨b, off + j, none⟩ = full[j]? := by
        refine ⟨(List.range (len * P.cellsOf e)).map fun j => (W.cell? ⟨b, off + j, none⟩).getD (.bool true), by simp, fun j hj => ?_⟩
        have hq : j / P.cellsOf e < len := Nat.div_lt_of_lt_mul (by rw [Nat.mul_comm]; exact hj)
        obtain ⟨cs', h1, _⟩ := hseg _ hq
        have h2 := (cells_of h1).2 (j % P.cellsOf e) (Nat.mod_lt _ hm)
        obtain ⟨v, hv⟩ : ∃ v, cs'[j % P.cellsOf e]? = some v := ⟨_, List.getElem?_eq_getElem (by rw [(cells_of h1).1]; exact Nat.mod_lt _ hm)⟩
        rw [hv, add_none, add_none, Nat.add_assoc, Nat.mul_comm, Nat.div_add_mod] at h2
        rw [List.getElem?_map, List.getElem?_range hj]
        simp [h2]
      obtain ⟨full, hfl, hfc⟩ := hfull
      have hone : ∀ p ∈ (List.range' 0 len).map (fun i => (i * P.cellsOf e, e)), One enc P W k p.2 (Seg full p.1 (P.cellsOf p.2)) := by
        intro p hp
        obtain ⟨i, hi, rfl⟩ := List.mem_map.1 hp
        have hi' : i < len := by simpa using hi
        obtain ⟨cs', h1, y, h2⟩ := hseg i hi'
        have : Seg full (i * P.cellsOf e) (P.cellsOf e) = cs' := by
          have hbound : i * P.cellsOf e + P.cellsOf e ≤ len * P.cellsOf e := by
            rw [← Nat.succ_mul]; exact Nat.mul_le_mul_right _ hi'
          apply List.ext_getElem?
          intro j
          unfold Seg
          rcases Nat.lt_or_ge j (P.cellsOf e) with hj | hj
          · rw [List.getElem?_take, if_pos hj, List.getElem?_drop, ← hfc _ (by omega), ← (cells_of h1).2 j hj, add_none, add_none, Nat.add_assoc]
          · rw [List.getElem?_eq_none (by simp; omega), List.getElem?_eq_none (by rw [(cells_of h1).1]; exact hj)]
        show One enc P W k e (Seg full (i * P.cellsOf e) (P.cellsOf e))
        rw [this]
        exact ih e n cs' y hpe h2
      have hcons : consec P 0 ((List.range' 0 len).map (fun i => (i * P.cellsOf e, e))) full.length = true := by
        have := consec_rep (P := P) (e := e) len 0
        rw [Nat.zero_mul, Nat.zero_add] at this
        rw [hfl]; exact this
      obtain ⟨φ1, l1, acs, g1, n1, v1, k1⟩ := ents (enc := enc) _ 0 hcons hone φ H hs hr
      rw [Nat.add_zero] at n1
      refine ⟨fun i => if i = (H ++ l1).length then some ⟨b, off, len * P.cellsOf e⟩ else φ1 i, l1 ++ [.row true acs], [.slice (some ⟨(H ++ l1).length, 0, none⟩) len cap], ⟨fun i L h => ?_, ?_, ?_⟩, rfl, fun j v v' e1 e2 => ?_, ?_⟩
      · have h1 := g1.mono i L h
        show (if i = (H ++ l1).length then _ else φ1 i) = some L
        rw [if_neg (by have := g1.sim.dom i L h1; omega)]; exact h1
      · rw [← List.append_assoc]
        refine g1.sim.pushRo g1.ro hblk (by show acs.length ≤ len * P.cellsOf e; omega) fun j c e1 => ?_
        have hj : j < len * P.cellsOf e := by have := (List.getElem?_eq_some_iff.1 e1).1; omega
        have h2 := hfc j hj
        rw [List.getElem?_eq_getElem (by omega)] at h2
        exact ⟨_, h2, v1 j c _ e1 (by rw [Nat.zero_add]; exact List.getElem?_eq_getElem (by omega))⟩
      · rw [← List.append_assoc]; exact g1.ro.push acs
      · cases j with
        | zero =>
          simp at e1 e2; subst e1 e2
          have hcap : cap < capU := Nat.lt_of_le_of_lt hcm (by decide)
          exact .slice _ 0 len cap ⟨b, off, len * P.cellsOf e⟩ cap (by simp) (fun _ => rfl) (fun m h => by omega) hlc
        | succ j => simp at e1
      · unfold aok; rw [hu]
        refine ⟨(H ++ l1).length, len, cap, acs, rfl, by omega, by simp, by rw [← List.append_assoc]; exact hget_last _ _, by omega, fun j hj => ?_⟩
        have := k1 (j * P.cellsOf e, e) (List.mem_map.2 ⟨j, by simpa using hj, rfl⟩)
        rw [← List.append_assoc]
        exact aok_more (by simpa using this)
    · rename_i fs hu
      simp only [Bool.and_eq_true, List.all_eq_true] at hp
      obtain ⟨xs, n, _, _, hl, hxs, hf⟩ := DataW.trod_struct hu hx
      obtain ⟨φ1, l1, acs, g1, n1, v1, k1⟩ := ents (enc := enc) (W := W) (k := k) (full := cs) _ 0 (by rw [hl]; exact hp.1) (fun p hp' => by
        obtain ⟨f, hf', rfl⟩ := List.mem_map.1 hp'
        obtain ⟨i, hi⟩ := List.getElem?_of_mem hf'
        have h1 := hf i f (by simpa using hi)
        have hi' : i < xs.length := by rw [hxs]; simpa using (List.getElem?_eq_some_iff.1 hi).1
        rw [List.getElem?_eq_getElem hi'] at h1
        exact ih f.type n _ _ (hp.2 f hf') h1) φ H hs hr
      refine ⟨φ1, l1, acs, g1, by omega, fun j v v' e1 e2 => v1 j v v' e1 (by rw [Nat.zero_add]; exact e2), ?_⟩
      unfold aok; rw [hu]
      exact ⟨by omega, fun f hf' => by simpa using k1 (f.offset, f.type) (List.mem_map.2 ⟨f, hf', rfl⟩)⟩
    · rename_i kk e hu
      simp only [Bool.and_eq_true, beq_iff_eq] at hp
      obtain ⟨xs, n, _, _, hl, hxs, hf⟩ := DataW.trod_array hu hx
      obtain ⟨φ1, l1, acs, g1, n1, v1, k1⟩ := ents (enc := enc) (W := W) (k := k) (full := cs) ((List.range' 0 kk).map fun i => (i * P.cellsOf e, e)) 0 (by
          have := consec_rep (P := P) (e := e) kk 0
          rw [Nat.zero_mul, Nat.zero_add, hp.1, ← hl] at this
          exact this) (fun p hp' => by
        obtain ⟨i, hi, rfl⟩ := List.mem_map.1 hp'
        have hi' : i < kk := by simpa using hi
        have h1 := hf i hi'
        rw [List.getElem?_eq_getElem (by omega)] at h1
        exact ih e n _ _ hp.2 h1) φ H hs hr
      refine ⟨φ1, l1, acs, g1, by omega, fun j v v' e1 e2 => v1 j v v' e1 (by rw [Nat.zero_add]; exact e2), ?_⟩
      unfold aok; rw [hu]
      exact ⟨by omega, fun j hj => by simpa using k1 (j * P.cellsOf e, e) (List.mem_map.2 ⟨j, by simpa using hj, rfl⟩)⟩
    · cases hp
end Go.Proofs.Ytocaepkkaihiiaa.Am
