/-
  The abstract machine, texts joined: Am10, Am11, Am12, Am13, Am14, Am15, Am16. No condition.
-/
import Derived.Test.YtfiilgnebmidbaaDoorK2
import Derived.Carry
import Derived.OpenShut
import Derived.ChangeOld
import Derived.DataReads
import Derived.SizedLaws
import Derived.RowKit3
/-
  The entry: a call's arguments, read by their types, as values over an abstract memory of rows that are only read. No condition.
-/
namespace Go.Proofs.YtfiilgnebmidbaaDoor.Am
open Go Go.RowKit Go.ChangeShapes Go.WideShapes
set_option linter.unusedVariables false
set_option linter.unusedSimpArgs false

def Seg (cs : List Value) (o m : Nat) : List Value := (cs.drop o).take m
def consec (P : Program) : Nat → List (Nat × TypeId) → Nat → Bool
  | o, [], total => o == total
  | o, (o', t) :: rest, total => o' == o && consec P (o + P.cellsOf t) rest total
/-- The types that are served: bool, int, string, slice, struct, array. -/
def plainT (P : Program) : Nat → TypeId → Bool
  | 0, _ => false
  | n + 1, t => match P.underlying t with
    | some .bool | some (.int _) | some .string => P.cellsOf t == 1
    | some (.slice e) => P.cellsOf t == 1 && decide (0 < P.cellsOf e) && plainT P n e
    | some (.struct fs) => consec P 0 (fs.toList.map fun f => (f.offset, f.type)) (P.cellsOf t) && fs.toList.all fun f => plainT P n f.type
    | some (.array k e) => k * P.cellsOf e == P.cellsOf t && plainT P n e
    | _ => false
/-- Cells of a type, read over an abstract memory. -/
def aok (P : Program) (H : AHeap) : Nat → TypeId → List Value → Prop
  | 0, _, _ => False
  | n + 1, t, cs => match P.underlying t with
    | some .bool => ∃ b, cs = [.bool b]
    | some (.int k) => ∃ x, cs = [.int k x] ∧ (Lit.int k x).wf = true
    | some .string => ∃ s : ByteArray, cs = [.string s] ∧ s.size ≤ maxLen
    | some (.slice e) => ∃ i len cap cells, cs = [.slice (some ⟨i, 0, none⟩) len cap] ∧ len ≤ maxLen ∧ i < H.length ∧ hget H i = .row true cells ∧ cells.length = len * P.cellsOf e ∧
        ∀ j, j < len → aok P H n e (Seg cells (j * P.cellsOf e) (P.cellsOf e))
    | some (.struct fs) => cs.length = P.cellsOf t ∧ ∀ f ∈ fs.toList, aok P H n f.type (Seg cs f.offset (P.cellsOf f.type))
    | some (.array k e) => cs.length = P.cellsOf t ∧ ∀ j, j < k → aok P H n e (Seg cs (j * P.cellsOf e) (P.cellsOf e))
    | _ => False
theorem aok_more {P : Program} {H l : AHeap} : ∀ {n : Nat} {t : TypeId} {cs : List Value}, aok P H n t cs → aok P (H ++ l) n t cs := by
  intro n
  induction n with
  | zero => intro t cs h; exact h
  | succ n ih =>
    intro t cs h
    unfold aok at h ⊢
    split at h <;> try exact h
    · obtain ⟨i, len, cap, cells, h1, h2, h3, h4, h5, h6⟩ := h
      exact ⟨i, len, cap, cells, h1, h2, by rw [List.length_append]; omega, by rw [hget_append_lt h3]; exact h4, h5, fun j hj => ih (h6 j hj)⟩
    · exact ⟨h.1, fun f hf => ih (h.2 f hf)⟩
    · exact ⟨h.1, fun j hj => ih (h.2 j hj)⟩

def AllRo (H : AHeap) : Prop := ∀ i, i < H.length → ∃ cs, hget H i = .row true cs

theorem Sim.nil (W : World) : Sim W (fun _ => none) [] W := ⟨fun _ _ h => (nomatch h), fun _ _ h => (nomatch h), fun _ _ _ _ _ h => (nomatch h), fun _ _ _ _ _ h => (nomatch h), Below.refl _ _⟩
theorem AllRo.push {H : AHeap} (h : AllRo H) (cs : List Value) : AllRo (H ++ [.row true cs]) := by
  intro i hi
  rcases Nat.lt_or_ge i H.length with h1 | h1
  · rw [hget_append_lt h1]; exact h i h1
  · rw [List.length_append, List.length_singleton] at hi
    obtain rfl : i = H.length := by omega
    exact ⟨cs, by rw [hget_append_ge (Nat.le_refl _), Nat.sub_self]; rfl⟩
theorem hget_last (H : AHeap) (o : AObj) : hget (H ++ [o]) H.length = o := by rw [hget_append_ge (Nat.le_refl _), Nat.sub_self]; rfl
theorem AllRo.notRow {H : AHeap} (h : AllRo H) (i : Nat) : (hget H i).isRow = false ∧ (hget H i).isMap = false := by
  rcases Nat.lt_or_ge i H.length with h1 | h1
  · obtain ⟨cs, e⟩ := h i h1; rw [e]; exact ⟨rfl, rfl⟩
  · rw [hget_ge h1]; exact ⟨rfl, rfl⟩
/-- a slice without elements -/
theorem Sim.pushEmpty {W : World} {φ : Phi} {H : AHeap} (hs : Sim W φ H W) (hr : AllRo H) (cs : List Value) : Sim W φ (H ++ [.row true cs]) W := by
  refine ⟨fun i L e => by rw [List.length_append]; have := hs.dom i L e; omega, fun i L e => ?_, fun i j L M _ _ _ h => ?_, fun i j L M _ _ _ h => ?_, hs.base⟩
  · rw [hget_append_lt (hs.dom i L e)]; exact hs.obj i L e
  · rw [((hr.push cs).notRow i).1] at h; cases h
  · rw [((hr.push cs).notRow i).2] at h; cases h
theorem Sim.pushRo {W : World} {φ : Phi} {H : AHeap} (hs : Sim W φ H W) (hr : AllRo H) {L : Loc} {cs : List Value} (hb : L.block < W.heap.size) (hf : cs.length ≤ L.ext)
    (hc : ∀ (j : Nat) c, cs[j]? = some c → ∃ c', W.cell? ⟨L.block, L.off + j, none⟩ = some c' ∧ V φ c c') : Sim W (fun i => if i = H.length then some L else φ i) (H ++ [.row true cs]) W := by
  have hm : ∀ i M, φ i = some M → (if i = H.length then some L else φ i) = some M := fun i M e => by
    rw [if_neg (by have := hs.dom i M e; omega)]; exact e
  refine ⟨fun i M e => ?_, fun i M e => ?_, fun i j L M _ _ _ h => ?_, fun i j L M _ _ _ h => ?_, hs.base⟩
  · rw [List.length_append, List.length_singleton]
    by_cases h : i = H.length
    · omega
    · rw [if_neg h] at e; have := hs.dom i M e; omega
  · by_cases h : i = H.length
    · subst h
      rw [if_pos rfl] at e
      obtain rfl := Option.some.inj e
      rw [hget_last]
      exact ⟨hf, fun j c e => by obtain ⟨c', h1, h2⟩ := hc j c e; exact ⟨c', h1, h2.mono hm⟩, fun _ => hb, fun h => (nomatch h), fun h => (nomatch h)⟩
    · rw [if_neg h] at e
      rw [hget_append_lt (hs.dom i M e)]
      have := hs.obj i M e
      obtain ⟨cs', e'⟩ := hr i (hs.dom i M e)
      rw [e'] at this ⊢
      exact ⟨this.fits, fun j c e => by obtain ⟨c', h1, h2⟩ := this.reads j c e; exact ⟨c', h1, h2.mono hm⟩, this.old, this.own, this.there⟩
  · rw [((hr.push cs).notRow i).1] at h; cases h
  · rw [((hr.push cs).notRow i).2] at h; cases h

/-- Where the entry has got to: more memory, more places. -/
structure Got (W : World) (φ : Phi) (H : AHeap) (φ' : Phi) (l : AHeap) : Prop where
  mono : ∀ i L, φ i = some L → φ' i = some L
  sim : Sim W φ' (H ++ l) W
  ro : AllRo (H ++ l)

variable {K : Type} {enc : TypeId × Value → K} {P : Program}
def One (enc : TypeId × Value → K) (P : Program) (W : World) (k : Nat) (t : TypeId) (cs : List Value) : Prop :=
  ∀ φ H, Sim W φ H W → AllRo H → ∃ φ' l acs, Got W φ H φ' l ∧ acs.length = cs.length ∧ (∀ (j : Nat) v v', acs[j]? = some v → cs[j]? = some v' → V φ' v v') ∧ aok P (H ++ l) k t acs

theorem seg_app {a b : List Value} {o m : Nat} (h : a.length ≤ o) : Seg (a ++ b) o m = Seg b (o - a.length) m := by
  unfold Seg; rw [List.drop_append_of_le_length' h]
 where
  List.drop_append_of_le_length' {a b : List Value} {o : Nat} (h : a.length ≤ o) : (a ++ b).drop o = b.drop (o - a.length) := by
    rw [List.drop_append]; rw [List.drop_of_length_le h]; rfl
theorem seg_first {a b : List Value} : Seg (a ++ b) 0 a.length = a := by unfold Seg; simp

theorem consec_le {P : Program} : ∀ {tiles : List (Nat × TypeId)} {o total : Nat}, consec P o tiles total = true → o ≤ total ∧ ∀ p ∈ tiles, o ≤ p.1 ∧ p.1 + P.cellsOf p.2 ≤ total := by
  intro tiles
  induction tiles with
  | nil => intro o total h; simp only [consec, beq_iff_eq] at h; exact ⟨by omega, fun p h => by cases h⟩
  | cons q rest ih =>
    intro o total h
    obtain ⟨o', t⟩ := q
    simp only [consec, Bool.and_eq_true, beq_iff_eq] at h
    obtain ⟨rfl, h⟩ := h
    obtain ⟨h1, h2⟩ := ih h
    refine ⟨by omega, fun p hp => ?_⟩
    rcases List.mem_cons.1 hp with rfl | hp
    · exact ⟨Nat.le_refl _, by omega⟩
    · have := h2 p hp; omega
theorem consec_rep {P : Program} {e : TypeId} : ∀ (k s : Nat), consec P (s * P.cellsOf e) ((List.range' s k).map fun i => (i * P.cellsOf e, e)) ((s + k) * P.cellsOf e) = true := by
  intro k
  induction k with
  | zero => intro s; simp [consec]
  | succ k ih =>
    intro s
    simp only [List.range'_succ, List.map_cons, consec, Bool.and_eq_true, beq_iff_eq, true_and]
    have := ih (s + 1)
    rw [show s * P.cellsOf e + P.cellsOf e = (s + 1) * P.cellsOf e by rw [Nat.add_mul, Nat.one_mul], show s + (k + 1) = s + 1 + k by omega]
    exact this

theorem ents {W : World} {k : Nat} {full : List Value} : ∀ (tiles : List (Nat × TypeId)) (o : Nat), consec P o tiles full.length = true → (∀ p ∈ tiles, One enc P W k p.2 (Seg full p.1 (P.cellsOf p.2))) →
    ∀ φ H, Sim W φ H W → AllRo H → ∃ φ' l acs, Got W φ H φ' l ∧ acs.length + o = full.length ∧ (∀ (j : Nat) v v', acs[j]? = some v → full[o + j]? = some v' → V φ' v v') ∧ ∀ p ∈ tiles, aok P (H ++ l) k p.2 (Seg acs (p.1 - o) (P.cellsOf p.2)) := by
  intro tiles
  induction tiles with
  | nil =>
    intro o hc _ φ H hs hr
    simp only [consec, beq_iff_eq] at hc
    exact ⟨φ, [], [], ⟨fun _ _ h => h, by rw [List.append_nil]; exact hs, by rw [List.append_nil]; exact hr⟩, by simp [hc], fun j v v' h => by simp at h, fun p h => by cases h⟩
  | cons q rest ih =>
    intro o hc hone φ H hs hr
    obtain ⟨o', t⟩ := q
    have hc0 := hc
    simp only [consec, Bool.and_eq_true, beq_iff_eq] at hc
    obtain ⟨rfl, hc⟩ := hc
    have hle := (consec_le hc0).2 (o', t) (List.mem_cons_self ..)
    obtain ⟨φ1, l1, a1, g1, n1, v1, k1⟩ := hone (o', t) (List.mem_cons_self ..) φ H hs hr
    obtain ⟨φ2, l2, a2, g2, n2, v2, k2⟩ := ih (o' + P.cellsOf t) hc (fun p hp => hone p (List.mem_cons_of_mem _ hp)) φ1 (H ++ l1) g1.sim g1.ro
    have hn1 : a1.length = P.cellsOf t := by
      rw [n1]; unfold Seg; simp only [List.length_take, List.length_drop]; omega
    refine ⟨φ2, l1 ++ l2, a1 ++ a2, ⟨fun i L h => g2.mono i L (g1.mono i L h), by rw [← List.append_assoc]; exact g2.sim, by rw [← List.append_assoc]; exact g2.ro⟩, by rw [List.length_append]; omega, fun j v v' e e' => ?_, fun p hp => ?_⟩
    · rcases Nat.lt_or_ge j a1.length with hj | hj
      · rw [List.getElem?_append_left hj] at e
        refine (v1 j v v' e ?_).mono g2.mono
        unfold Seg
        rw [List.getElem?_take, if_pos (by simpa using (by omega : j < P.cellsOf t)), List.getElem?_drop]; exact e'
      · rw [List.getElem?_append_right hj] at e
        exact v2 _ v v' e (by rw [← e']; congr 1; omega)
    · rw [← List.append_assoc]
      rcases List.mem_cons.1 hp with rfl | hp
      · have : Seg (a1 ++ a2) (o' - o') (P.cellsOf t) = a1 := by rw [Nat.sub_self, ← hn1]; exact seg_first
        show aok P _ k t (Seg (a1 ++ a2) (o' - o') (P.cellsOf t))
        rw [this]; exact aok_more k1
      · have h1 := ((consec_le hc).2 p hp).1
        rw [seg_app (by omega)]
        have := k2 p hp
        rw [show p.1 - (o' + P.cellsOf t) = p.1 - o' - a1.length by omega] at this
        exact this

theorem cells_of {w : World} {base : Nat} {a : Addr} {n : Nat} {cs : List Value} (h : w.cells? base a n = some cs) : cs.length = n ∧ ∀ i, i < n → w.cell? (a.add i) = cs[i]? := by
  unfold World.cells? at h
  split at h
  · exact ⟨by simpa using mapM_some_length h, fun i hi => mapM_some_get h i i (by simp [hi])⟩
  · cases h

theorem cell_spot {w : World} {a : Addr} {v : Value} (h : w.cell? a = some v) : a.spot = none ∧ a.block < w.heap.size := by
  unfold World.cell? at h
  split at h
  · rename_i c _ _ hb
    refine ⟨?_, ?_⟩
    · cases hs : a.spot with
      | none => rfl
      | some x => rw [hs] at h; simp at h
    · have := (Array.getElem?_eq_some_iff.1 hb).1; exact this
  · cases h

theorem ent {W : World} : ∀ (k : Nat) (t : TypeId) (fuel : Nat) (cs : List Value) (x : DataW K × List MemPlace), plainT P k t = true → DataW.trod enc P W 0 (fun _ => true) true fuel t cs = some x → One enc P W k t cs := by
  intro k
  induction k with
  | zero => intro t fuel cs x h; simp [plainT] at h
  | succ k ih =>
    intro t fuel cs x hp hx φ H hs hr
    have flat : (∀ v ∈ cs, Flat v) → aok P (H ++ []) (k + 1) t cs → ∃ φ' l acs, Got W φ H φ' l ∧ acs.length = cs.length ∧ (∀ (j : Nat) v v', acs[j]? = some v → cs[j]? = some v' → V φ' v v') ∧ aok P (H ++ l) (k + 1) t acs := fun hf ha =>
      ⟨φ, [], cs, ⟨fun _ _ h => h, by rw [List.append_nil]; exact hs, by rw [List.append_nil]; exact hr⟩, rfl, fun j v v' e e' => by rw [e] at e'; obtain rfl := Option.some.inj e'; exact V.flat (hf v (List.mem_of_getElem? e)), ha⟩
    unfold plainT at hp
    split at hp
    · rename_i hu
      obtain ⟨b, rfl, _⟩ := DataW.trod_bool hu hx
      exact flat (fun v h => by simp at h; subst h; exact .bool b) (by unfold aok; rw [hu]; exact ⟨b, rfl⟩)
    · rename_i kk hu
      obtain ⟨n, rfl, _, hw⟩ := DataW.trod_int hu hx
      exact flat (fun v h => by simp at h; subst h; exact .int _ n) (by unfold aok; rw [hu]; exact ⟨n, rfl, hw⟩)
    · rename_i hu
      obtain ⟨s, rfl, _, hw⟩ := DataW.trod_string hu hx
      exact flat (fun v h => by simp at h; subst h; exact .string s) (by unfold aok; rw [hu]; exact ⟨s, rfl, hw⟩)
    · rename_i e hu
      simp only [Bool.and_eq_true, decide_eq_true_eq, beq_iff_eq] at hp
      obtain ⟨⟨_, hm⟩, hpe⟩ := hp
      have empty : ∀ (a : Option Addr) (c' : Nat), cs = [.slice a 0 c'] → ∃ φ' l acs, Got W φ H φ' l ∧ acs.length = cs.length ∧ (∀ (j : Nat) v v', acs[j]? = some v → cs[j]? = some v' → V φ' v v') ∧ aok P (H ++ l) (k + 1) t acs := by
        rintro a c' rfl
        refine ⟨φ, [.row true []], [.slice (some ⟨H.length, 0, none⟩) 0 capE], ⟨fun _ _ h => h, hs.pushEmpty hr [], hr.push []⟩, rfl, fun j v v' e1 e2 => ?_, ?_⟩
        · cases j with
          | zero => simp at e1 e2; subst e1 e2; exact .empty _ _ _ _
          | succ j => simp at e1
        · unfold aok; rw [hu]
          exact ⟨H.length, 0, capE, [], rfl, by decide, by simp, hget_last _ _, by simp, fun j hj => absurd hj (Nat.not_lt_zero _)⟩
      rcases DataW.trod_slice hu hx with ⟨rfl, _⟩ | ⟨a, len, cap, elems, rest, n, _, rfl, _, hb, hlc, hcm, hel, hget, _, _⟩
      · exact empty none 0 rfl
      rcases Nat.eq_zero_or_pos len with rfl | hpos
      · exact empty (some a) cap rfl
      -- the cells of the elements
      have hseg : ∀ i, i < len → ∃ cs', W.cells? 0 (a.add (i * P.cellsOf e)) (P.cellsOf e) = some cs' ∧ ∃ y, DataW.trod enc P W 0 (fun _ => true) true n e cs' = some y := by
        intro i hi
        have h1 := hget i hi
        rw [List.getElem?_eq_getElem (by omega)] at h1
        obtain ⟨cs', h2, h3⟩ := Option.bind_eq_some_iff.1 h1
        exact ⟨cs', h2, _, h3⟩
      obtain ⟨cs0, h00, _⟩ := hseg 0 hpos
      have hz := (cells_of h00).2 0 hm
      rw [List.getElem?_eq_getElem (by rw [(cells_of h00).1]; exact hm)] at hz
      obtain ⟨hspot, hblk⟩ := cell_spot hz
      rw [show (a.add (0 * P.cellsOf e)).add 0 = a by simp [Addr.add]] at hspot hblk
      obtain ⟨b, off, spot⟩ := a
      simp only at hspot hblk
      subst hspot
      have hfull : ∃ full : List Value, full.length = len * P.cellsOf e ∧ ∀ j, j < len * P.cellsOf e → W.cell? ⟨b, off + j, none⟩ = full[j]? := by
        refine ⟨(List.range (len * P.cellsOf e)).map fun j => (W.cell? ⟨b, off + j, none⟩).getD (.bool true), by simp, fun j hj => ?_⟩
        have hq : j / P.cellsOf e < len := Nat.div_lt_of_lt_mul (by rw [Nat.mul_comm]; exact hj)
        obtain ⟨cs', h1, _⟩ := hseg _ hq
        have h2 := (cells_of h1).2 (j % P.cellsOf e) (Nat.mod_lt _ hm)
        obtain ⟨v, hv⟩ : ∃ v, cs'[j % P.cellsOf e]? = some v := ⟨_, List.getElem?_eq_getElem (by rw [(cells_of h1).1]; exact Nat.mod_lt _ hm)⟩
        rw [hv, add_none, add_none, Nat.add_assoc, Nat.mul_comm, Nat.div_add_mod] at h2
        rw [List.getElem?_map, List.getElem?_range hj]
        simp [h2]
      obtain ⟨full, hfl, hfc⟩ := hfull
      have hone : ∀ p ∈ (List.range' 0 len).map (fun i => (i * P.cellsOf e, e)), One enc P W k p.2 (Seg full p.1 (P.cellsOf p.2)) := by
        intro p hp
        obtain ⟨i, hi, rfl⟩ := List.mem_map.1 hp
        have hi' : i < len := by simpa using hi
        obtain ⟨cs', h1, y, h2⟩ := hseg i hi'
        have : Seg full (i * P.cellsOf e) (P.cellsOf e) = cs' := by
          have hbound : i * P.cellsOf e + P.cellsOf e ≤ len * P.cellsOf e := by
            rw [← Nat.succ_mul]; exact Nat.mul_le_mul_right _ hi'
          apply List.ext_getElem?
          intro j
          unfold Seg
          rcases Nat.lt_or_ge j (P.cellsOf e) with hj | hj
          · rw [List.getElem?_take, if_pos hj, List.getElem?_drop, ← hfc _ (by omega), ← (cells_of h1).2 j hj, add_none, add_none, Nat.add_assoc]
          · rw [List.getElem?_eq_none (by simp; omega), List.getElem?_eq_none (by rw [(cells_of h1).1]; exact hj)]
        show One enc P W k e (Seg full (i * P.cellsOf e) (P.cellsOf e))
        rw [this]
        exact ih e n cs' y hpe h2
      have hcons : consec P 0 ((List.range' 0 len).map (fun i => (i * P.cellsOf e, e))) full.length = true := by
        have := consec_rep (P := P) (e := e) len 0
        rw [Nat.zero_mul, Nat.zero_add] at this
        rw [hfl]; exact this
      obtain ⟨φ1, l1, acs, g1, n1, v1, k1⟩ := ents (enc := enc) _ 0 hcons hone φ H hs hr
      rw [Nat.add_zero] at n1
      refine ⟨fun i => if i = (H ++ l1).length then some ⟨b, off, len * P.cellsOf e⟩ else φ1 i, l1 ++ [.row true acs], [.slice (some ⟨(H ++ l1).length, 0, none⟩) len cap], ⟨fun i L h => ?_, ?_, ?_⟩, rfl, fun j v v' e1 e2 => ?_, ?_⟩
      · have h1 := g1.mono i L h
        show (if i = (H ++ l1).length then _ else φ1 i) = some L
        rw [if_neg (by have := g1.sim.dom i L h1; omega)]; exact h1
      · rw [← List.append_assoc]
        refine g1.sim.pushRo g1.ro hblk (by show acs.length ≤ len * P.cellsOf e; omega) fun j c e1 => ?_
        have hj : j < len * P.cellsOf e := by have := (List.getElem?_eq_some_iff.1 e1).1; omega
        have h2 := hfc j hj
        rw [List.getElem?_eq_getElem (by omega)] at h2
        exact ⟨_, h2, v1 j c _ e1 (by rw [Nat.zero_add]; exact List.getElem?_eq_getElem (by omega))⟩
      · rw [← List.append_assoc]; exact g1.ro.push acs
      · cases j with
        | zero =>
          simp at e1 e2; subst e1 e2
          have hcap : cap < capU := Nat.lt_of_le_of_lt hcm (by decide)
          exact .slice _ 0 len cap ⟨b, off, len * P.cellsOf e⟩ cap (by simp) (fun _ => rfl) (fun m h => by omega) hlc
        | succ j => simp at e1
      · unfold aok; rw [hu]
        refine ⟨(H ++ l1).length, len, cap, acs, rfl, by omega, by simp, by rw [← List.append_assoc]; exact hget_last _ _, by omega, fun j hj => ?_⟩
        have := k1 (j * P.cellsOf e, e) (List.mem_map.2 ⟨j, by simpa using hj, rfl⟩)
        rw [← List.append_assoc]
        exact aok_more (by simpa using this)
    · rename_i fs hu
      simp only [Bool.and_eq_true, List.all_eq_true] at hp
      obtain ⟨xs, n, _, _, hl, hxs, hf⟩ := DataW.trod_struct hu hx
      obtain ⟨φ1, l1, acs, g1, n1, v1, k1⟩ := ents (enc := enc) (W := W) (k := k) (full := cs) _ 0 (by rw [hl]; exact hp.1) (fun p hp' => by
        obtain ⟨f, hf', rfl⟩ := List.mem_map.1 hp'
        obtain ⟨i, hi⟩ := List.getElem?_of_mem hf'
        have h1 := hf i f (by simpa using hi)
        have hi' : i < xs.length := by rw [hxs]; simpa using (List.getElem?_eq_some_iff.1 hi).1
        rw [List.getElem?_eq_getElem hi'] at h1
        exact ih f.type n _ _ (hp.2 f hf') h1) φ H hs hr
      refine ⟨φ1, l1, acs, g1, by omega, fun j v v' e1 e2 => v1 j v v' e1 (by rw [Nat.zero_add]; exact e2), ?_⟩
      unfold aok; rw [hu]
      exact ⟨by omega, fun f hf' => by simpa using k1 (f.offset, f.type) (List.mem_map.2 ⟨f, hf', rfl⟩)⟩
    · rename_i kk e hu
      simp only [Bool.and_eq_true, beq_iff_eq] at hp
      obtain ⟨xs, n, _, _, hl, hxs, hf⟩ := DataW.trod_array hu hx
      obtain ⟨φ1, l1, acs, g1, n1, v1, k1⟩ := ents (enc := enc) (W := W) (k := k) (full := cs) ((List.range' 0 kk).map fun i => (i * P.cellsOf e, e)) 0 (by
          have := consec_rep (P := P) (e := e) kk 0
          rw [Nat.zero_mul, Nat.zero_add, hp.1, ← hl] at this
          exact this) (fun p hp' => by
        obtain ⟨i, hi, rfl⟩ := List.mem_map.1 hp'
        have hi' : i < kk := by simpa using hi
        have h1 := hf i hi'
        rw [List.getElem?_eq_getElem (by omega)] at h1
        exact ih e n _ _ hp.2 h1) φ H hs hr
      refine ⟨φ1, l1, acs, g1, by omega, fun j v v' e1 e2 => v1 j v v' e1 (by rw [Nat.zero_add]; exact e2), ?_⟩
      unfold aok; rw [hu]
      exact ⟨by omega, fun j hj => by simpa using k1 (j * P.cellsOf e, e) (List.mem_map.2 ⟨j, by simpa using hj, rfl⟩)⟩
    · cases hp
end Go.Proofs.YtfiilgnebmidbaaDoor.Am
/-
  The entry of a law: whatever the arguments, the call returns true and leaves memory as it was. No condition.
-/
namespace Go.Proofs.YtfiilgnebmidbaaDoor.Am
open Go Go.RowKit Go.ChangeShapes Go.WideShapes
set_option linter.unusedVariables false
set_option linter.unusedSimpArgs false

variable {K : Type} {enc : TypeId × Value → K} {P : Program}

def argOk (P : Program) (H : AHeap) (k : Nat) (t : TypeId) (v : Value) : Prop :=
  (∃ acs, v = .agg acs.toArray ∧ aok P H k t acs ∧ ((∃ fs, P.underlying t = some (.struct fs)) ∨ ∃ n e, P.underlying t = some (.array n e))) ∨ (aok P H k t [v] ∧ (∀ fs, P.underlying t ≠ some (.struct fs)) ∧ ∀ n e, P.underlying t ≠ some (.array n e))
def argsOk (P : Program) (H : AHeap) (k : Nat) : List TypeId → List Value → Prop
  | [], [] => True
  | t :: ts, v :: vs => argOk P H k t v ∧ argsOk P H k ts vs
  | _, _ => False
theorem argOk_more {H l : AHeap} {k : Nat} {t : TypeId} {v : Value} (h : argOk P H k t v) : argOk P (H ++ l) k t v := by
  rcases h with ⟨acs, h1, h2, h3⟩ | ⟨h1, h2⟩
  · exact .inl ⟨acs, h1, aok_more h2, h3⟩
  · exact .inr ⟨aok_more h1, h2⟩

theorem entV {W : World} {k : Nat} {t : TypeId} {v : Value} {d : DataW K} {ps : List MemPlace} {b : Nat} (hp : plainT P k t = true) (hv : Value.okWide P W .any b t v) (h : DataW.Trod enc P W 0 (fun _ => true) true t v d ps) :
    ∀ φ H, Sim W φ H W → AllRo H → ∃ φ' l av, Got W φ H φ' l ∧ V φ' av v ∧ argOk P (H ++ l) k t av := by
  intro φ H hs hr
  obtain ⟨fuel, h⟩ := h
  obtain ⟨φ', l, acs, g, hn, hV, hk⟩ := ent k t fuel _ _ hp h φ H hs hr
  have agg : (∃ cs, v = .agg cs) → ((∃ fs, P.underlying t = some (.struct fs)) ∨ ∃ n e, P.underlying t = some (.array n e)) → ∃ φ' l av, Got W φ H φ' l ∧ V φ' av v ∧ argOk P (H ++ l) k t av := by
    rintro ⟨cs, rfl⟩ ht
    have hn' : acs.length = cs.size := by simpa [Value.cells] using hn
    exact ⟨φ', l, .agg acs.toArray, g, .agg _ _ (by simpa using hn') (fun i u u' e e' => hV i u u' (by simpa using e) (by simpa [Value.cells] using e')), .inl ⟨acs, rfl, hk, ht⟩⟩
  have one : (∀ cs, v ≠ .agg cs) → (∀ fs, P.underlying t ≠ some (.struct fs)) → (∀ n e, P.underlying t ≠ some (.array n e)) → ∃ φ' l av, Got W φ H φ' l ∧ V φ' av v ∧ argOk P (H ++ l) k t av := by
    intro hv h1 h2
    have hc : v.cells.toList = [v] := by
      cases v <;> first | rfl | exact absurd rfl (hv _)
    rw [hc] at hn hV
    match acs, hn with
    | [a], _ => exact ⟨φ', l, a, g, hV 0 a v rfl rfl, .inr ⟨hk, h1, h2⟩⟩
  cases k with
  | zero => simp [plainT] at hp
  | succ k =>
    unfold plainT at hp
    split at hp <;> rename_i hu <;> try (cases hp; done)
    · obtain ⟨b, rfl⟩ := okWide_bool hu hv
      exact one (fun _ h => nomatch h) (fun _ h => by rw [hu] at h; cases h) (fun _ _ h => by rw [hu] at h; cases h)
    · obtain ⟨b, rfl⟩ := okWide_int hu hv
      exact one (fun _ h => nomatch h) (fun _ h => by rw [hu] at h; cases h) (fun _ _ h => by rw [hu] at h; cases h)
    · obtain ⟨b, rfl⟩ := okWide_string hu hv
      exact one (fun _ h => nomatch h) (fun _ h => by rw [hu] at h; cases h) (fun _ _ h => by rw [hu] at h; cases h)
    · obtain ⟨_, _, _, rfl⟩ := okWide_slice hu hv
      exact one (fun _ h => nomatch h) (fun _ h => by rw [hu] at h; cases h) (fun _ _ h => by rw [hu] at h; cases h)
    · obtain ⟨cs, rfl, _⟩ := okWide_struct hu hv
      exact agg ⟨_, rfl⟩ (.inl ⟨_, hu⟩)
    · unfold Value.okWide at hv
      rw [hu] at hv
      obtain ⟨cs, rfl, _⟩ := hv
      exact agg ⟨_, rfl⟩ (.inr ⟨_, _, hu⟩)

theorem entAll {W : World} {k : Nat} {b : Nat} : ∀ (ts : List TypeId) (vs : List Value) (ds : List (DataW K)) (ps : List MemPlace), ts.all (plainT P k) = true → (∀ (j : Nat) t v, ts[j]? = some t → vs[j]? = some v → Value.okWide P W .any b t v) →
    DataW.TrodAll enc P W 0 (fun _ => true) true ts vs ds ps → ∀ φ H, Sim W φ H W → AllRo H → ∃ φ' l avs, Got W φ H φ' l ∧ avs.length = vs.length ∧ (∀ (j : Nat) a v, avs[j]? = some a → vs[j]? = some v → V φ' a v) ∧ argsOk P (H ++ l) k ts avs := by
  intro ts
  induction ts with
  | nil =>
    intro vs ds ps _ _ h φ H hs hr
    obtain ⟨rfl, rfl, rfl⟩ := trodAll_none' h
    exact ⟨φ, [], [], ⟨fun _ _ h => h, by rw [List.append_nil]; exact hs, by rw [List.append_nil]; exact hr⟩, rfl, fun j a v h => by simp at h, trivial⟩
  | cons t ts ih =>
    intro vs ds ps hp hv h φ H hs hr
    obtain ⟨v, vs, d, ds, p, q, rfl, rfl, rfl, h1, h2⟩ := trodAll_cons h
    simp only [List.all_cons, Bool.and_eq_true] at hp
    obtain ⟨φ1, l1, a1, g1, v1, k1⟩ := entV hp.1 (hv 0 t v rfl rfl) h1 φ H hs hr
    obtain ⟨φ2, l2, as, g2, n2, v2, k2⟩ := ih vs ds q hp.2 (fun j t' v' e e' => hv (j + 1) t' v' (by simpa using e) (by simpa using e')) h2 φ1 (H ++ l1) g1.sim g1.ro
    refine ⟨φ2, l1 ++ l2, a1 :: as, ⟨fun i L h => g2.mono i L (g1.mono i L h), by rw [← List.append_assoc]; exact g2.sim, by rw [← List.append_assoc]; exact g2.ro⟩, by simp [n2], fun j a v e e' => ?_, ?_⟩
    · cases j with
      | zero => simp at e e'; subst e e'; exact v1.mono g2.mono
      | succ j => exact v2 j a v (by simpa using e) (by simpa using e')
    · rw [← List.append_assoc]; exact ⟨argOk_more k1, k2⟩
 where
  trodAll_none' {W : World} {vs : List Value} {ds : List (DataW K)} {ps : List MemPlace} (h : DataW.TrodAll enc P W 0 (fun _ => true) true [] vs ds ps) : vs = [] ∧ ds = [] ∧ ps = [] := by
    cases vs <;> cases ds <;> simp [DataW.TrodAll] at h
    exact ⟨rfl, rfl, h⟩

theorem trodAll_below {W W' : World} (hl : laidOutB P = true) (hb : Below W.heap.size W W') : ∀ (ts : List TypeId) (vs : List Value) (ds : List (DataW K)) (ps : List MemPlace), (∀ t ∈ ts, P.readableRec t = true ∧ t < P.types.size) →
    DataW.TrodAll enc P W 0 (fun _ => true) true ts vs ds ps → (∀ x ∈ ps, x.block < W.heap.size) → DataW.TrodAll enc P W' 0 (fun b => decide (b < W.heap.size)) true ts vs ds ps := by
  intro ts
  induction ts with
  | nil => intro vs ds ps _ h _; cases vs <;> cases ds <;> simp [DataW.TrodAll] at h ⊢; exact h
  | cons t ts ih =>
    intro vs ds ps hr h hlt
    obtain ⟨v, vs, d, ds, p, q, rfl, rfl, rfl, h1, h2⟩ := trodAll_cons h
    exact ⟨p, q, Below.trod hl (hr t (List.mem_cons_self ..)).1 (hr t (List.mem_cons_self ..)).2 h1 hb (fun x hx => hlt x (List.mem_append_left _ hx)),
      ih vs ds q (fun t' h' => hr t' (List.mem_cons_of_mem _ h')) h2 (fun x hx => hlt x (List.mem_append_right _ hx)), rfl⟩

theorem trodAll_len {W : World} : ∀ {ts : List TypeId} {vs : List Value} {ds : List (DataW K)} {ps : List MemPlace}, DataW.TrodAll enc P W 0 (fun _ => true) true ts vs ds ps → ds.length = ts.length := by
  intro ts
  induction ts with
  | nil => intro vs ds ps h; cases vs <;> cases ds <;> simp_all [DataW.TrodAll]
  | cons t ts ih =>
    intro vs ds ps h
    obtain ⟨v, vs, d, ds, p, q, rfl, rfl, rfl, h1, h2⟩ := trodAll_cons h
    simp [ih h2]

theorem law_post {f : FuncId} {fn : Func} {s : ChangeSpec} {W : World} {base k : Nat} {args : Array Value} {ds gs : List (DataW K)} {before : List MemPlace} {tb : TypeId}
    (hl : laidOutB P = true) (hp : fn.params.toList.all (fun t => plainT P k t && P.readableRec t && decide (t < P.types.size)) = true) (hres : fn.resultTypes.toList = [tb]) (hb : P.underlying tb = some .bool) (hvars : s.vars = [])
    (hspec : ∀ (K : Type) (ds : List (DataW K)), ds.length = fn.params.toList.length → (s.fn K ds).results = [.lit (.bool true)] ∧ (s.fn K ds).args = ds ∧ (s.fn K ds).vars = [])
    (hcall : ∀ H avs, AllRo H → argsOk P H k fn.params.toList avs → ∃ H', ACall P f avs H (.bool true) H')
    (hval : ∀ (j : Nat) t v, fn.params[j]? = some t → args[j]? = some v → Value.okWide P W .any base t v) (hW : DataW.Whole enc P fn.params.toList s.vars false W args.toList ds gs before) :
    Calls P f args W fun e W' => ∃ v, e = .returned v ∧ s.post enc P fn false true false false W args v W' := by
  have hW' := hW
  obtain ⟨p, q, hA, hV, rfl, hfz, hnd⟩ := hW
  rw [hvars] at hV
  obtain ⟨rfl, rfl⟩ := trodVars_none hV
  simp only [List.all_eq_true, Bool.and_eq_true, decide_eq_true_eq] at hp
  obtain ⟨φ, l, avs, g, hn, hv, hk⟩ := entAll fn.params.toList args.toList ds p (by rw [List.all_eq_true]; exact fun t ht => (hp t ht).1.1) (fun j t v e e' => hval j t v (by simpa using e) (by simpa using e')) hA _ [] (Sim.nil W) (fun i h => absurd h (Nat.not_lt_zero _))
  rw [List.nil_append] at hk
  have gs' := g.sim
  have gr := g.ro
  rw [List.nil_append] at gs' gr
  obtain ⟨H', hc⟩ := hcall l avs gr hk
  refine (hc W φ W args gs' ⟨by simpa using hn.symm, fun j a v e e' => hv j a v e (by simpa using e')⟩).mono fun e W' h => ?_
  obtain ⟨v', φ', rfl, hs', hv', _⟩ := h
  obtain rfl := V.of_flat (.bool true) hv'
  have hlen := trodAll_len hA
  obtain ⟨e1, e2, e3⟩ := hspec K (ds ++ []) (by simpa using hlen)
  refine ⟨_, rfl, ds, [], p ++ [], [], p, [], hW', ?_, ?_, ?_, hs'.base.frame _, fun h => by cases h⟩
  · rw [e1, hres]
    have : (Value.bool true).resultList fn.resultTypes.size = [.bool true] := by
      have : fn.resultTypes.size = 1 := by rw [← Array.length_toList, hres]; rfl
      rw [this]; rfl
    rw [this]
    exact trodAll_mk1 (shut_bool hb true)
  · rw [e2, List.append_nil]
    exact trodAll_below hl hs'.base _ _ _ _ (fun t ht => ⟨(hp t ht).1.2, (hp t ht).2⟩) hA (fun x hx => hW'.lt x (List.mem_append_left _ hx))
  · rw [e3, hvars]; rfl
end Go.Proofs.YtfiilgnebmidbaaDoor.Am
/-
  Arguments opened by their types. No condition.
-/
namespace Go.Proofs.YtfiilgnebmidbaaDoor.Am
open Go Go.RowKit Go.ChangeShapes Go.WideShapes
set_option linter.unusedVariables false
set_option linter.unusedSimpArgs false
variable {P : Program} {H : AHeap} {k : Nat}

def i64 (x : Int) : Prop := -9223372036854775808 ≤ x ∧ x ≤ 9223372036854775807
def all64 (l : List Int) : Prop := ∀ x ∈ l, i64 x
theorem all64.rd {l : List Int} (h : all64 l) (j : Nat) : i64 (rd l j) := by
  unfold Am.rd
  rcases Nat.lt_or_ge j l.length with hj | hj
  · rw [List.getD_eq_getElem?_getD, List.getElem?_eq_getElem hj]; exact h _ (List.getElem_mem hj)
  · rw [List.getD_eq_getElem?_getD, List.getElem?_eq_none hj]; exact ⟨by decide, by decide⟩
theorem wf64 {x : Int} (h : (Lit.int .i64 x).wf = true) : i64 x := by
  have h' : IntKind.i64.min ≤ x ∧ x ≤ IntKind.i64.max := by simpa only [Lit.wf, Bool.and_eq_true, decide_eq_true_eq] using h
  have e1 : IntKind.i64.min = -9223372036854775808 := by decide
  have e2 : IntKind.i64.max = 9223372036854775807 := by decide
  rw [e1, e2] at h'
  exact h'

theorem aok_int {t : TypeId} {cs : List Value} (ht : P.underlying t = some (.int .i64)) (h : aok P H k t cs) : ∃ x, cs = [.int .i64 x] ∧ i64 x := by
  cases k with
  | zero => exact absurd h id
  | succ k => unfold aok at h; rw [ht] at h; obtain ⟨x, h1, h2⟩ := h; exact ⟨x, h1, wf64 h2⟩
theorem segs_ints {e : TypeId} {n : Nat} {cs : List Value} (he : P.underlying e = some (.int .i64)) (hm : P.cellsOf e = 1) (hl : cs.length = n) (h : ∀ j, j < n → aok P H k e (Seg cs (j * P.cellsOf e) (P.cellsOf e))) :
    ∃ l : List Int, l.length = n ∧ cs = ints l ∧ all64 l := by
  subst hl
  induction cs with
  | nil => exact ⟨[], rfl, rfl, fun x h => by cases h⟩
  | cons c cs ih =>
    obtain ⟨l, h1, h2, h3⟩ := ih fun j hj => by
      have := h (j + 1) (by simpa using hj)
      rw [hm] at this ⊢
      simpa [Seg] using this
    obtain ⟨x, e1, e2⟩ := aok_int he (h 0 (by simp))
    rw [hm] at e1
    simp [Seg] at e1
    refine ⟨x :: l, by simp [h1], by rw [e1, h2]; rfl, fun y hy => ?_⟩
    rcases List.mem_cons.1 hy with rfl | hy
    · exact e2
    · exact h3 y hy
theorem aok_arr {t e : TypeId} {n : Nat} {cs : List Value} (ht : P.underlying t = some (.array n e)) (he : P.underlying e = some (.int .i64)) (hm : P.cellsOf e = 1) (hn : P.cellsOf t = n) (h : aok P H k t cs) :
    ∃ l : List Int, l.length = n ∧ cs = ints l ∧ all64 l := by
  cases k with
  | zero => exact absurd h id
  | succ k => unfold aok at h; rw [ht] at h; exact segs_ints he hm (h.1.trans hn) h.2
/-- a slice of ints -/
theorem aok_ints {t e : TypeId} {cs : List Value} (ht : P.underlying t = some (.slice e)) (he : P.underlying e = some (.int .i64)) (hm : P.cellsOf e = 1) (h : aok P H k t cs) :
    ∃ i c, ∃ l : List Int, cs = [.slice (some ⟨i, 0, none⟩) l.length c] ∧ l.length ≤ maxLen ∧ i < H.length ∧ hget H i = .row true (ints l) ∧ all64 l := by
  cases k with
  | zero => exact absurd h id
  | succ k =>
    unfold aok at h; rw [ht] at h
    obtain ⟨i, len, cap, cells, rfl, h1, h2, h3, h4, h5⟩ := h
    rw [hm, Nat.mul_one] at h4
    obtain ⟨l, rfl, rfl, h6⟩ := segs_ints he hm h4 h5
    exact ⟨i, cap, l, rfl, h1, h2, h3, h6⟩
/-- a slice of arrays of ints -/
theorem aok_arrs {t e q : TypeId} {n : Nat} {cs : List Value} (ht : P.underlying t = some (.slice e)) (he : P.underlying e = some (.array n q)) (hq : P.underlying q = some (.int .i64)) (hm : P.cellsOf q = 1) (hn : P.cellsOf e = n) (h : aok P H k t cs) :
    ∃ i c, ∃ l : List (List Int), cs = [.slice (some ⟨i, 0, none⟩) l.length c] ∧ l.length ≤ maxLen ∧ i < H.length ∧ hget H i = .row true (ints l.flatten) ∧ ∀ r ∈ l, r.length = n ∧ all64 r := by
  cases k with
  | zero => exact absurd h id
  | succ k =>
    unfold aok at h; rw [ht] at h
    obtain ⟨i, len, cap, cells, rfl, h1, h2, h3, h4, h5⟩ := h
    rw [hn] at h4 h5
    have key : ∃ l : List (List Int), l.length = len ∧ cells = ints l.flatten ∧ ∀ r ∈ l, r.length = n ∧ all64 r := by
      clear h1 h3
      induction len generalizing cells with
      | zero => exact ⟨[], rfl, List.eq_nil_of_length_eq_zero (by simpa using h4), fun r h => by cases h⟩
      | succ len ih =>
        obtain ⟨l, k1, k2, k3⟩ := ih (cells.drop n) (by rw [List.length_drop, h4, Nat.succ_mul]; omega) (fun j hj => by
          have := h5 (j + 1) (by omega)
          unfold Seg at this ⊢
          rw [List.drop_drop, show n + j * n = (j + 1) * n by rw [Nat.succ_mul]; omega]
          exact this)
        obtain ⟨r, r1, r2, r3⟩ := aok_arr he hq hm hn (h5 0 (Nat.succ_pos _))
        have : cells = cells.take n ++ cells.drop n := (List.take_append_drop n cells).symm
        refine ⟨r :: l, by simp [k1], ?_, fun r' h' => ?_⟩
        · rw [this, k2]
          have r2' : cells.take n = ints r := by simpa [Seg] using r2
          rw [r2']; simp [ints]
        · rcases List.mem_cons.1 h' with rfl | h'
          · exact ⟨r1, r3⟩
          · exact k3 r' h'
    obtain ⟨l, rfl, rfl, k3⟩ := key
    exact ⟨i, cap, l, rfl, h1, h2, h3, k3⟩
/-- a slice of slices of ints: each row a number, a room, its ints -/
def hdr (x : Nat × Nat × List Int) : Value := .slice (some ⟨x.1, 0, none⟩) x.2.2.length x.2.1
theorem aok_rows {t e q : TypeId} {cs : List Value} (ht : P.underlying t = some (.slice e)) (he : P.underlying e = some (.slice q)) (hq : P.underlying q = some (.int .i64)) (hm : P.cellsOf q = 1) (hn : P.cellsOf e = 1) (h : aok P H k t cs) :
    ∃ i c, ∃ l : List (Nat × Nat × List Int), cs = [.slice (some ⟨i, 0, none⟩) l.length c] ∧ l.length ≤ maxLen ∧ i < H.length ∧ hget H i = .row true (l.map hdr) ∧
      ∀ r ∈ l, r.1 < H.length ∧ hget H r.1 = .row true (ints r.2.2) ∧ r.2.2.length ≤ maxLen ∧ all64 r.2.2 := by
  cases k with
  | zero => exact absurd h id
  | succ k =>
    unfold aok at h; rw [ht] at h
    obtain ⟨i, len, cap, cells, rfl, h1, h2, h3, h4, h5⟩ := h
    rw [hn, Nat.mul_one] at h4
    rw [hn] at h5
    have key : ∃ l : List (Nat × Nat × List Int), l.length = len ∧ cells = l.map hdr ∧ ∀ r ∈ l, r.1 < H.length ∧ hget H r.1 = .row true (ints r.2.2) ∧ r.2.2.length ≤ maxLen ∧ all64 r.2.2 := by
      clear h1 h3
      induction len generalizing cells with
      | zero => exact ⟨[], rfl, List.eq_nil_of_length_eq_zero h4, fun r h => by cases h⟩
      | succ len ih =>
        obtain ⟨l, k1, k2, k3⟩ := ih (cells.drop 1) (by rw [List.length_drop, h4]; omega) (fun j hj => by
          have := h5 (j + 1) (by omega)
          unfold Seg at this ⊢
          rw [List.drop_drop, show 1 + j * 1 = (j + 1) * 1 by omega]
          exact this)
        obtain ⟨i', c', r, r1, r2, r3, r4, r5⟩ := aok_ints he hq hm (h5 0 (Nat.succ_pos _))
        refine ⟨(i', c', r) :: l, by simp [k1], ?_, fun r' h' => ?_⟩
        · have r1' : cells.take 1 = [.slice (some ⟨i', 0, none⟩) r.length c'] := by simpa [Seg] using r1
          rw [← List.take_append_drop 1 cells, k2, r1']; rfl
        · rcases List.mem_cons.1 h' with rfl | h'
          · exact ⟨r3, r4, r2, r5⟩
          · exact k3 r' h'
    obtain ⟨l, rfl, rfl, k3⟩ := key
    exact ⟨i, cap, l, rfl, h1, h2, h3, k3⟩

/-! of an argument -/
theorem arg_int {t : TypeId} {v : Value} (ht : P.underlying t = some (.int .i64)) (h : argOk P H k t v) : ∃ x, v = .int .i64 x ∧ i64 x := by
  rcases h with ⟨acs, _, _, ⟨fs, h⟩ | ⟨n, e, h⟩⟩ | ⟨h, _⟩
  · rw [ht] at h; cases h
  · rw [ht] at h; cases h
  · obtain ⟨x, e, h⟩ := aok_int ht h; exact ⟨x, by simpa using e, h⟩
theorem arg_arr {t e : TypeId} {n : Nat} {v : Value} (ht : P.underlying t = some (.array n e)) (he : P.underlying e = some (.int .i64)) (hm : P.cellsOf e = 1) (hn : P.cellsOf t = n) (h : argOk P H k t v) :
    ∃ l : List Int, l.length = n ∧ v = .agg (ints l).toArray ∧ all64 l := by
  rcases h with ⟨acs, rfl, h, _⟩ | ⟨h, _, h2⟩
  · obtain ⟨l, h1, rfl, h3⟩ := aok_arr ht he hm hn h; exact ⟨l, h1, rfl, h3⟩
  · exact absurd ht (h2 _ _)
theorem arg_slice {t e : TypeId} {v : Value} (ht : P.underlying t = some (.slice e)) (h : argOk P H k t v) : aok P H k t [v] := by
  rcases h with ⟨acs, _, _, ⟨fs, h⟩ | ⟨n, e, h⟩⟩ | ⟨h, _⟩
  · rw [ht] at h; cases h
  · rw [ht] at h; cases h
  · exact h
/-- a struct of a number and a slice -/
theorem arg_pair {t : TypeId} {f0 f1 : Field} {v : Value} (ht : P.underlying t = some (.struct #[f0, f1])) (h0 : f0.offset = 0) (h1 : f1.offset = 1) (c0 : P.cellsOf f0.type = 1) (c1 : P.cellsOf f1.type = 1) (hc : P.cellsOf t = 2) (h : argOk P H (k + 1) t v) :
    ∃ a b, v = .agg #[a, b] ∧ aok P H k f0.type [a] ∧ aok P H k f1.type [b] := by
  rcases h with ⟨acs, rfl, h, _⟩ | ⟨_, h, _⟩
  · unfold aok at h; rw [ht] at h
    obtain ⟨hl, h⟩ := h
    rw [hc] at hl
    match acs, hl with
    | [a, b], _ =>
      refine ⟨a, b, rfl, ?_, ?_⟩
      · have := h f0 (by simp); rw [h0, c0] at this; exact this
      · have := h f1 (by simp); rw [h1, c1] at this; exact this
  · exact absurd ht (h _)
theorem args_nil {avs : List Value} (h : argsOk P H k [] avs) : avs = [] := by cases avs with | nil => rfl | cons => exact absurd h id
theorem args_cons {t : TypeId} {ts : List TypeId} {avs : List Value} (h : argsOk P H k (t :: ts) avs) : ∃ v vs, avs = v :: vs ∧ argOk P H k t v ∧ argsOk P H k ts vs := by
  cases avs with | nil => exact absurd h id | cons v vs => exact ⟨v, vs, rfl, h.1, h.2⟩
end Go.Proofs.YtfiilgnebmidbaaDoor.Am
/-
  What a call made and hands out, renumbered; arrays of arrays of ints. No condition.
-/
namespace Go.Proofs.YtfiilgnebmidbaaDoor.Am
open Go Go.RowKit
set_option linter.unusedVariables false
set_option linter.unusedSimpArgs false

/-- The same value, told with other numbers: new, old. -/
inductive Ren (σ : Nat → Option Nat) : Value → Value → Prop where
  | flat (v : Value) (h : Flat v) : Ren σ v v
  | ptr (j i o : Nat) (h : σ j = some i) : Ren σ (.pointer (some ⟨j, o, none⟩)) (.pointer (some ⟨i, o, none⟩))
  | slice (j i o n c : Nat) (h : σ j = some i) : Ren σ (.slice (some ⟨j, o, none⟩) n c) (.slice (some ⟨i, o, none⟩) n c)
  | map (j i : Nat) (h : σ j = some i) : Ren σ (.map (some j)) (.map (some i))
  | agg (cs cs' : Array Value) (h : cs.size = cs'.size) (hc : ∀ (i : Nat) v v', cs[i]? = some v → cs'[i]? = some v' → Ren σ v v') : Ren σ (.agg cs) (.agg cs')
  | tuple (cs cs' : Array Value) (h : cs.size = cs'.size) (hc : ∀ (i : Nat) v v', cs[i]? = some v → cs'[i]? = some v' → Ren σ v v') : Ren σ (.tuple cs) (.tuple cs')

theorem Ren.V {σ : Nat → Option Nat} {φ ψ : Phi} (hσ : ∀ j i L, σ j = some i → φ i = some L → ψ j = some L) {v' v w : Value} (h : Ren σ v' v) : V φ v w → V ψ v' w := by
  induction h generalizing w with
  | flat v hf => intro k; obtain rfl := V.of_flat hf k; exact V.flat hf
  | ptr j i o h => intro k; cases k with | ptr _ _ L e => exact .ptr _ _ L (hσ _ _ _ h e)
  | slice j i o n c h =>
    intro k
    cases k with
    | slice _ _ _ _ L c' e h1 h2 h3 => exact .slice _ _ _ _ L c' (hσ _ _ _ h e) h1 h2 h3
    | empty _ _ a c' => exact .empty _ _ a c'
  | map j i h => intro k; cases k with | map _ L e => exact .map _ L (hσ _ _ _ h e)
  | agg cs cs' h _ ih =>
    intro k
    cases k with
    | agg _ ds k1 kc =>
      refine .agg _ _ (h.trans k1) fun i v u e e' => ?_
      obtain ⟨x, hx⟩ := get_pair h e
      exact ih i v x e hx (kc i x u hx e')
  | tuple cs cs' h _ ih =>
    intro k
    cases k with
    | tuple _ ds k1 kc =>
      refine .tuple _ _ (h.trans k1) fun i v u e e' => ?_
      obtain ⟨x, hx⟩ := get_pair h e
      exact ih i v x e hx (kc i x u hx e')

inductive ObjRen (σ : Nat → Option Nat) (H : AHeap) (i : Nat) : AObj → AObj → Prop where
  | old (h : i < H.length) : ObjRen σ H i (hget H i) (hget H i)
  | dead (o : AObj) : ObjRen σ H i .dead o
  | row (cs' cs : List Value) (hl : cs'.length = cs.length) (h : ∀ (j : Nat) c' c, cs'[j]? = some c' → cs[j]? = some c → Ren σ c' c) : ObjRen σ H i (.row false cs') (.row false cs)
  | map (es : List (Value × Value)) : ObjRen σ H i (.map es) (.map es)

theorem Fin.ren {H G H' : AHeap} {v v₀ : Value} (σ : Nat → Option Nat) (hlen : H.length ≤ H'.length) (hσ : ∀ i k, σ i = some k → i < H'.length) (hold : ∀ i, i < H.length → σ i = some i)
    (hinj : ∀ i j k, σ i = some k → σ j = some k → i = j) (hobj : ∀ i k, σ i = some k → ObjRen σ H i (hget H' i) (hget G k)) (hv : Ren σ v₀ v) : Fin H v G v₀ H' := by
  intro W φ w φ' w' u hs hst hs' hu
  have hm := hst.keeps hs
  have key : ∀ j i L, σ j = some i → φ' i = some L → (σ j).bind φ' = some L := fun j i L h e => by rw [h]; exact e
  have inv : ∀ i L, (σ i).bind φ' = some L → ∃ k, σ i = some k ∧ φ' k = some L := fun i L e => by
    cases h : σ i with
    | none => rw [h] at e; cases e
    | some k => rw [h] at e; exact ⟨k, rfl, e⟩
  have rowOf : ∀ i k, σ i = some k → (hget H' i).isRow = true → (hget G k).isRow = true := fun i k h hr => by
    have := hobj i k h
    generalize hget H' i = a at *
    generalize hget G k = b at *
    cases this with
    | old => exact hr
    | dead => cases hr
    | row => rfl
    | map => cases hr
  have mapOf : ∀ i k, σ i = some k → (hget H' i).isMap = true → (hget G k).isMap = true := fun i k h hr => by
    have := hobj i k h
    generalize hget H' i = a at *
    generalize hget G k = b at *
    cases this with
    | old => exact hr
    | dead => cases hr
    | row => cases hr
    | map => rfl
  refine ⟨fun i => (σ i).bind φ', ⟨fun i L e => ?_, fun i L e => ?_, fun i j L M hij ei ej ri rj => ?_, fun i j L M hij ei ej ri rj => ?_, hs'.base⟩, hv.V key hu, ⟨fun i hi => ?_, hlen, hst.size, hst.cells, hst.frozen, fun b o hb ho => ?_⟩⟩
  · obtain ⟨k, h, _⟩ := inv i L e; exact hσ i k h
  · obtain ⟨k, h, e'⟩ := inv i L e
    have h1 := hobj i k h
    have h2 := hs'.obj k L e'
    by_cases hi : i < H.length ∧ hget H' i = hget H i ∧ hget G k = hget H i
    · obtain ⟨hi, g1, g2⟩ := hi
      obtain rfl : i = k := Option.some.inj ((hold i hi).symm.trans h)
      have hφ : φ i = some L := (hst.agree i hi).symm.trans e'
      have h3 := hs.obj i L hφ
      rw [g1]
      rw [g2] at h2
      cases ho : hget H i with
      | dead => trivial
      | row ro cells =>
        rw [ho] at h2 h3
        refine ⟨h2.fits, fun j c hc => ?_, h2.old, h2.own, h2.there⟩
        obtain ⟨c', e1, e2⟩ := h2.reads j c hc
        obtain ⟨u', e3, e4⟩ := h3.reads j c hc
        exact ⟨c', e1, (V.restrict hm e4 e2).mono fun a M ea => key a a M (hold a (hs.dom a M ea)) (hm a M ea)⟩
      | map es => rw [ho] at h2; exact h2
    · revert h1 h2 hi
      generalize hget H' i = a
      generalize hget G k = b
      intro h1 h2 hi
      cases h1 with
      | old hi' => exact absurd ⟨hi', rfl, rfl⟩ hi
      | dead => trivial
      | row cs' cs hl hc =>
        refine ⟨by rw [hl]; exact h2.fits, fun j c' e1 => ?_, h2.old, h2.own, h2.there⟩
        have hj : j < cs.length := by rw [← hl]; exact (List.getElem?_eq_some_iff.1 e1).1
        obtain ⟨x, e3, e4⟩ := h2.reads j _ (List.getElem?_eq_getElem hj)
        exact ⟨x, e3, (hc j c' _ e1 (List.getElem?_eq_getElem hj)).V key e4⟩
      | map es => exact h2
  · obtain ⟨k, h, e⟩ := inv i L ei
    obtain ⟨k', h', e'⟩ := inv j M ej
    exact hs'.disj k k' L M (fun hk => hij (hinj i j k' (hk ▸ h) h')) e e' (rowOf i k h ri) (rowOf j k' h' rj)
  · obtain ⟨k, h, e⟩ := inv i L ei
    obtain ⟨k', h', e'⟩ := inv j M ej
    exact hs'.mdisj k k' L M (fun hk => hij (hinj i j k' (hk ▸ h) h')) e e' (mapOf i k h ri) (mapOf j k' h' rj)
  · show (σ i).bind φ' = φ i
    rw [hold i hi]; exact hst.agree i hi
  · obtain ⟨i, L, e, hr, h1, h2, h3⟩ := ho
    obtain ⟨k, h, e'⟩ := inv i L e
    exact hst.own b o hb ⟨k, L, e', rowOf i k h hr, h1, h2, h3⟩

/-- nothing new is handed out: the numbers behind are free -/
theorem Fin.pad {H G l : AHeap} {v : Value} (hf : Flat v) (hold : ∀ i, i < H.length → hget G i = hget H i) : Fin H v G v (H ++ l) := by
  refine Fin.ren (fun i => if i < H.length then some i else none) (by simp) (fun i k h => ?_) (fun i hi => if_pos hi) (fun i j k h1 h2 => ?_) (fun i k h => ?_) (.flat v hf)
  · split at h
    · rw [List.length_append]; omega
    · cases h
  · split at h1 <;> split at h2 <;> simp_all
  · split at h
    · rename_i hi; obtain rfl := Option.some.inj h
      rw [hget_append_lt hi, hold i hi]; exact .old hi
    · cases h
def σ1 (n k : Nat) (i : Nat) : Option Nat := if i < n then some i else if i = n then some k else none
theorem σ1_new (n k : Nat) : σ1 n k n = some k := by unfold σ1; rw [if_neg (Nat.lt_irrefl _), if_pos rfl]
/-- one new row of flat cells is handed out -/
theorem Fin.one {H G : AHeap} {v v₀ : Value} {k : Nat} {cs : List Value} (hold : ∀ i, i < H.length → hget G i = hget H i) (hk : H.length ≤ k) (hg : hget G k = .row false cs) (hf : ∀ c ∈ cs, flat0 c = true)
    (hv : Ren (σ1 H.length k) v₀ v) : Fin H v G v₀ (H ++ [.row false cs]) := by
  refine Fin.ren (σ1 H.length k) (by simp) (fun i j h => ?_) (fun i hi => if_pos hi) (fun i j q h1 h2 => ?_) (fun i j h => ?_) hv
  · unfold σ1 at h; rw [List.length_append, List.length_singleton]; split at h
    · omega
    · split at h
      · omega
      · cases h
  · unfold σ1 at h1 h2
    split at h1 <;> split at h2 <;> (try split at h1) <;> (try split at h2) <;> simp_all <;> omega
  · unfold σ1 at h; split at h
    · rename_i hi; obtain rfl := Option.some.inj h
      rw [hget_append_lt hi, hold i hi]; exact .old hi
    · split at h
      · rename_i hi; obtain rfl := Option.some.inj h; subst hi
        rw [hget_last, hg]
        exact .row _ _ rfl fun j c' c e e' => by rw [e] at e'; obtain rfl := Option.some.inj e'; exact .flat _ (flat0_ok (hf _ (List.mem_of_getElem? e)))
      · cases h
theorem ren_slice {n k o m c : Nat} : Ren (σ1 n k) (.slice (some ⟨n, o, none⟩) m c) (.slice (some ⟨k, o, none⟩) m c) := .slice _ _ _ _ _ (σ1_new n k)
theorem ren_agg2 {σ : Nat → Option Nat} {a a' b b' : Value} (h1 : Ren σ a a') (h2 : Ren σ b b') : Ren σ (.agg #[a, b]) (.agg #[a', b']) := by
  refine .agg _ _ rfl fun i v v' e e' => ?_
  match i with
  | 0 => simp at e e'; subst e e'; exact h1
  | 1 => simp at e e'; subst e e'; exact h2
  | n + 2 => simp at e
theorem ren_tup2 {σ : Nat → Option Nat} {a a' b b' : Value} (h1 : Ren σ a a') (h2 : Ren σ b b') : Ren σ (.tuple #[a, b]) (.tuple #[a', b']) := by
  refine .tuple _ _ rfl fun i v v' e e' => ?_
  match i with
  | 0 => simp at e e'; subst e e'; exact h1
  | 1 => simp at e e'; subst e e'; exact h2
  | n + 2 => simp at e

/-! ### Arrays of m ints in a row -/
def All (m : Nat) (l : List (List Int)) : Prop := ∀ r ∈ l, r.length = m
def rw_ (l : List (List Int)) (i : Nat) : List Int := l.getD i []
theorem flat_len {m : Nat} : ∀ {l : List (List Int)}, All m l → l.flatten.length = l.length * m
  | [], _ => by simp
  | r :: l, h => by
    rw [List.flatten_cons, List.length_append, h r (List.mem_cons_self ..), flat_len (fun r hr => h r (List.mem_cons_of_mem _ hr)), List.length_cons, Nat.succ_mul]; omega
theorem rw_len {m : Nat} {l : List (List Int)} (h : All m l) {i : Nat} (hi : i < l.length) : (rw_ l i).length = m := by
  unfold rw_; rw [List.getD_eq_getElem?_getD, List.getElem?_eq_getElem hi]; exact h _ (List.getElem_mem hi)
theorem flat_get {m : Nat} : ∀ {l : List (List Int)}, All m l → ∀ {i j : Nat}, i < l.length → j < m → l.flatten[i * m + j]? = (rw_ l i)[j]?
  | [], _, i, _, hi, _ => absurd hi (Nat.not_lt_zero _)
  | r :: l, h, 0, j, _, hj => by
    rw [List.flatten_cons, Nat.zero_mul, Nat.zero_add, List.getElem?_append_left (by rw [h r (List.mem_cons_self ..)]; exact hj)]; rfl
  | r :: l, h, i + 1, j, hi, hj => by
    have hr := h r (List.mem_cons_self ..)
    rw [List.flatten_cons, List.getElem?_append_right (by rw [hr, Nat.succ_mul]; omega), hr, show (i + 1) * m + j - m = i * m + j by rw [Nat.succ_mul]; omega,
      flat_get (fun r hr => h r (List.mem_cons_of_mem _ hr)) (by simpa using hi) hj]; rfl
theorem flat_cells {m : Nat} {l : List (List Int)} (h : All m l) {i : Nat} (hi : i < l.length) : ∀ (j : Nat) v, (ints (rw_ l i))[j]? = some v → (ints l.flatten)[i * m + j]? = some v := by
  intro j v e
  have hj : j < m := by have := (List.getElem?_eq_some_iff.1 e).1; rw [ints_length, rw_len h hi] at this; exact this
  unfold ints at *
  rw [List.getElem?_map] at *
  rw [flat_get h hi hj]; exact e
theorem row_part {H : AHeap} {k o : Nat} {ro : Bool} {cs vs : List Value} (hk : hget H k = .row ro cs) (h : ∀ (j : Nat) v, vs[j]? = some v → cs[o + j]? = some v) : ∀ (j : Nat) v, vs[j]? = some v → hcell H k (o + j) = some v :=
  fun j v e => row_cell hk (h j v e)
theorem All.set {m : Nat} {l : List (List Int)} (h : All m l) {r : List Int} (hr : r.length = m) (i : Nat) : All m (l.set i r) := by
  intro x hx
  rcases List.mem_or_eq_of_mem_set hx with hx | rfl
  · exact h x hx
  · exact hr
theorem flat_setMany {m : Nat} {l : List (List Int)} (h : All m l) {r : List Int} (hr : r.length = m) {i : Nat} (hi : i < l.length) : setMany (ints l.flatten) (i * m) (ints r) = ints (l.set i r).flatten := by
  have hb : i * m + m ≤ l.length * m := by rw [← Nat.succ_mul]; exact Nat.mul_le_mul_right _ hi
  have hL : (ints l.flatten).length = l.length * m := by rw [ints_length, flat_len h]
  have hL' : (ints (l.set i r).flatten).length = l.length * m := by rw [ints_length, flat_len (h.set hr i), List.length_set]
  apply List.ext_getElem?
  intro q
  rcases Nat.lt_or_ge q (l.length * m) with hq | hq
  · have hm : 0 < m := by rcases Nat.eq_zero_or_pos m with rfl | h; · simp at hq
                          · exact h
    have hd : q / m < l.length := Nat.div_lt_of_lt_mul (by rw [Nat.mul_comm]; exact hq)
    have hqe : q = q / m * m + q % m := by rw [Nat.mul_comm]; exact (Nat.div_add_mod q m).symm
    have hj := Nat.mod_lt q hm
    have rhs : (ints (l.set i r).flatten)[q]? = (ints (rw_ (l.set i r) (q / m)))[q % m]? := by
      unfold ints; rw [List.getElem?_map, List.getElem?_map]; congr 1
      conv => lhs; rw [hqe]
      exact flat_get (h.set hr i) (by rw [List.length_set]; exact hd) hj
    rw [rhs]
    by_cases he : q / m = i
    · have h1 := setMany_in (ints r) (ints l.flatten) (i * m) (q % m) (by rw [hL]; omega) (by rw [ints_length, hr]; exact hj)
      rw [he] at hqe
      rw [← hqe] at h1
      rw [h1, he]
      unfold rw_; rw [List.getD_eq_getElem?_getD, List.getElem?_set_self hi]; rfl
    · have h1 : (setMany (ints l.flatten) (i * m) (ints r))[q]? = (ints l.flatten)[q]? := by
        rcases Nat.lt_or_ge (q / m) i with hlt | hge
        · have : q < i * m := by
            have : (q / m + 1) * m ≤ i * m := Nat.mul_le_mul_right _ hlt
            rw [Nat.add_mul, Nat.one_mul] at this; omega
          exact setMany_lt (ints r) (ints l.flatten) (i * m) q this
        · have : i * m + m ≤ q := by
            have : (i + 1) * m ≤ q / m * m := Nat.mul_le_mul_right _ (by omega)
            rw [Nat.add_mul, Nat.one_mul] at this; omega
          exact setMany_ge (ints r) (ints l.flatten) (i * m) q (by rw [ints_length, hr]; exact this)
      rw [h1]
      unfold ints; rw [List.getElem?_map, List.getElem?_map]; congr 1
      conv => lhs; rw [hqe]
      rw [flat_get h hd hj]
      congr 1
      unfold rw_; rw [List.getD_eq_getElem?_getD, List.getD_eq_getElem?_getD, List.getElem?_set_ne (fun e => he e.symm)]
  · rw [List.getElem?_eq_none (by rw [setMany_length]; omega), List.getElem?_eq_none (by omega)]
end Go.Proofs.YtfiilgnebmidbaaDoor.Am
/-
  Rules in the shape in which a program prints them: slices made, arrays in rows. No condition.
-/
namespace Go.Proofs.YtfiilgnebmidbaaDoor.Am
open Go Go.RowKit
set_option linter.unusedVariables false
set_option linter.unusedSimpArgs false

theorem flatten_single : ∀ (c : Nat) (x : Int), (List.replicate c [x]).flatten = List.replicate c x
  | 0, _ => rfl
  | c + 1, x => by rw [List.replicate_succ, List.replicate_succ, List.flatten_cons, flatten_single c x]; rfl
theorem ints_flatten : ∀ (l : List (List Int)), (l.map ints).flatten = ints l.flatten
  | [] => rfl
  | r :: l => by rw [List.map_cons, List.flatten_cons, ints_flatten l, List.flatten_cons]; simp [ints]
section
variable {P : Program} {N : Nat} {t : Env} {H : AHeap} {d : Option Tmp} {ty : TypeId} {pos : String} {af : Array Edge} {g : Option (Nat × Bool)}
theorem make_cells {c : Nat} {r : List Int} : ((List.replicate c (ints r)).flatten) = ints (List.replicate c r).flatten := by
  rw [← ints_flatten, List.map_replicate]
theorem s_makeRows {T E : TypeId} {x y : Operand} {k j : IntKind} {n c m by_ i : Nat} {z : Value} {r : List Int} {ti : TypeInfo} {H' : AHeap} (hT : P.underlying T = some (.slice E)) (hi : ∀ w, (typeInfo E).run P w = .ok ti w) (hm : ∀ w, (sizeOf E).run P w = .ok m w)
    (hz : ∀ w, (zeroValue E).run P w = .ok z w) (hzc : z.cells.toList = ints r) (hr : r.length = m) (hb : ti.bytes = by_) (hx : aEv t x = some (.int k n)) (hy : aEv t y = some (.int j c)) (hnc : n ≤ c) (hsz : c * by_ ≤ 281474976710656) (hc : c < 9223372036854775808) (hm0 : 0 < m)
    (hidx : H.length = i) (hH : H ++ [AObj.row false (ints (List.replicate c r).flatten)] = H') : OpOk P N ⟨d, .makeSlice T x y, ty, pos, af, g⟩ t H (.slice (some ⟨i, 0, none⟩) n c) H' := by
  subst hidx hH
  have := m_makeSlice (N := N) (d := d) (ty := ty) (pos := pos) (af := af) (g := g) (H := H) hx hy hT hi hm hz (by rw [hzc]; exact ints_flat) (by rw [← Array.length_toList, hzc, ints_length]; exact hr) hb hnc hsz hc hm0
  rw [hzc, make_cells] at this
  exact this
theorem s_makeInts {T E : TypeId} {x y : Operand} {k j : IntKind} {n c by_ i : Nat} {z : Value} {ti : TypeInfo} {H' : AHeap} (hT : P.underlying T = some (.slice E)) (hi : ∀ w, (typeInfo E).run P w = .ok ti w) (hm : ∀ w, (sizeOf E).run P w = .ok 1 w)
    (hz : ∀ w, (zeroValue E).run P w = .ok z w) (hzc : z.cells.toList = ints [0]) (hb : ti.bytes = by_) (hx : aEv t x = some (.int k n)) (hy : aEv t y = some (.int j c)) (hnc : n ≤ c) (hsz : c * by_ ≤ 281474976710656) (hc : c < 9223372036854775808)
    (hidx : H.length = i) (hH : H ++ [AObj.row false (ints (List.replicate c 0))] = H') : OpOk P N ⟨d, .makeSlice T x y, ty, pos, af, g⟩ t H (.slice (some ⟨i, 0, none⟩) n c) H' :=
  s_makeRows hT hi hm hz hzc rfl hb hx hy hnc hsz hc Nat.one_pos hidx (by rw [flatten_single]; exact hH)
/-- an array over a row of a slice of arrays -/
theorem s_storeRow {T : TypeId} {x y : Operand} {i o q m : Nat} {l : List (List Int)} {r : List Int} {H' : AHeap} (hn : ∀ w, (sizeOf T).run P w = .ok m w) (hx : aEv t x = some (.pointer (some ⟨i, q, none⟩))) (hy : aEv t y = some (.agg (ints r).toArray))
    (hq : q = o * m) (hg : hget H i = .row false (ints l.flatten)) (hl : All m l) (hr : r.length = m) (ho : o < l.length) (hH : H.set i (.row false (ints (l.set o r).flatten)) = H') : OpOk P N ⟨d, .store T x y, ty, pos, af, g⟩ t H undef H' := by
  subst hH hq
  have hb : o * m + m ≤ l.length * m := by rw [← Nat.succ_mul]; exact Nat.mul_le_mul_right _ ho
  have := m_storeN (N := N) (d := d) (ty := ty) (pos := pos) (af := af) (g := g) hx hy (fun v h => ints_one v h) hn (by rw [ints_length]; exact hr) hg (by rw [ints_length, flat_len hl]; exact hb)
  rwa [flat_setMany hl hr ho] at this
end
theorem many_part {H : AHeap} {i o n : Nat} {vs : List Value} (h : ∀ (j : Nat) v, vs[j]? = some v → hcell H i (o + j) = some v) (hf : ∀ v ∈ vs, flat0 v = true) : ∀ c ∈ cellsFrom i o vs, hcell H c.1 c.2.1 = some c.2.2 ∧ Bel n c.2.2 := by
  intro c hc
  obtain ⟨j, h1, h2, h3⟩ := of_mem_cellsFrom vs o c hc
  rw [h2, h3]
  exact ⟨h j _ h1, .of_flat0 (hf _ (List.mem_of_getElem? h1))⟩
theorem row_lt {H : AHeap} {i : Nat} {ro : Bool} {cs : List Value} (h : hget H i = .row ro cs) : i < H.length := by
  rcases Nat.lt_or_ge i H.length with h' | h'
  · exact h'
  · rw [hget_ge h'] at h; cases h
theorem all_rep {m c : Nat} : All m (List.replicate c (List.replicate m 0)) := by
  intro r h; rw [List.eq_of_mem_replicate h, List.length_replicate]
theorem ends2 {P : Program} {N : Nat} {fn : Func} {H : AHeap} {v v₀ : Value} {H' H₀ : AHeap} {t : Env} {ex : Exit} (hex : ex = .normal ∨ ex = .ret) (hr : ResOk P N fn t H' v) (hf : Fin H v H' v₀ H₀) : Ends P N fn H v₀ H₀ ex t H' := ⟨hex, v, hr, hf⟩
theorem bel_nil {n : Nat} : ∀ v ∈ ([] : List Value), Bel n v := fun v h => by cases h
theorem bel_cons {n : Nat} {a : Value} {l : List Value} (h : Bel n a) (k : ∀ v ∈ l, Bel n v) : ∀ v ∈ a :: l, Bel n v := by
  intro v hv
  rcases List.mem_cons.1 hv with rfl | hv
  · exact h
  · exact k v hv
theorem many_bel {H : AHeap} {i o n : Nat} {vs : List Value} (h : ∀ (j : Nat) v, vs[j]? = some v → hcell H i (o + j) = some v) (hf : ∀ v ∈ vs, Bel n v) : ∀ c ∈ cellsFrom i o vs, hcell H c.1 c.2.1 = some c.2.2 ∧ Bel n c.2.2 := by
  intro c hc
  obtain ⟨j, h1, h2, h3⟩ := of_mem_cellsFrom vs o c hc
  rw [h2, h3]
  exact ⟨h j _ h1, hf _ (List.mem_of_getElem? h1)⟩
/-- writers that only add -/
theorem dyn_ext {ops : List Oper} {es : List Ev} (ha : (es.all fun e => match e.kd with | .alloc _ => false | _ => true) = true) (h : ∀ f ∈ es, f.kd = .write → ∃ l, f.H' = f.H ++ l) : dynOk ops es := by
  refine dyn_keep (fun f hf hk i hi => ?_) (fun k u e f hku hk hu hc => ?_)
  · obtain ⟨l, e⟩ := h f hf hk
    rw [e, hget_append_lt hi]
  · obtain ⟨c, hc⟩ := hc
    rw [List.all_eq_true] at ha
    have := ha e (List.mem_of_getElem? hk)
    rw [hc] at this; cases this
theorem flat_cell {m : Nat} {l : List (List Int)} (h : All m l) {i j : Nat} (hi : i < l.length) (hj : j < m) : (ints l.flatten)[i * m + j]? = some (.int .i64 (rd (rw_ l i) j)) :=
  flat_cells h hi j _ (ints_get (by rw [rw_len h hi]; exact hj))
/-- every writer stands in order with all that reads or makes -/
def Kd.isRA : Kd → Bool
  | .read _ | .alloc _ => true
  | _ => false
def ordOk (ops : List Oper) (wr ra : List Bool) : Bool :=
  let bef := befAll ops
  (List.range ra.length).all fun k => !(ra.getD k false) || (List.range wr.length).all fun u => !(wr.getD u false) || (bef.getD u []).contains k || (bef.getD k []).contains u
theorem dyn_ord {ops : List Oper} {es : List Ev} (h : ordOk ops (es.map fun e => e.kd.isWrite) (es.map fun e => e.kd.isRA) = true) : dynOk ops es := by
  intro k e hk u f hu hf hun
  unfold ordOk at h
  rw [List.all_eq_true] at h
  have hkl : k < es.length := (List.getElem?_eq_some_iff.1 hk).1
  have hul : u < es.length := (List.getElem?_eq_some_iff.1 hu).1
  have h1 := h k (List.mem_range.2 (by rw [List.length_map]; exact hkl))
  rw [Bool.or_eq_true, List.all_eq_true] at h1
  have e1 : (es.map fun e => e.kd.isRA).getD k false = e.kd.isRA := by rw [List.getD_eq_getElem?_getD, List.getElem?_map, hk]; rfl
  have e2 : (es.map fun e => e.kd.isWrite).getD u false = true := by rw [List.getD_eq_getElem?_getD, List.getElem?_map, hu]; show f.kd.isWrite = true; rw [hf]; rfl
  rcases h1 with h1 | h1
  · rw [e1] at h1
    cases hkd : e.kd <;> dsimp only <;> (rw [hkd] at h1; cases h1)
  · have h2 := h1 u (List.mem_range.2 (by rw [List.length_map]; exact hul))
    rw [e2] at h2
    simp only [Bool.not_true, Bool.false_or, Bool.or_eq_true, List.contains_iff_mem] at h2
    exact absurd h2 (not_or.2 hun)
theorem DTr.heap {P : Program} {N : Nat} {l₀ : List Oper} {t₀ : Env} {H₀ : AHeap} {Q : Exit → Env → AHeap → Prop} {l : List Oper} {t : Env} {H H' : AHeap} {acc : List Ev} (h : H = H') (k : DTr P N l₀ t₀ H₀ Q l t H' acc) : DTr P N l₀ t₀ H₀ Q l t H acc := h ▸ k
section
variable {P : Program} {N : Nat} {l₀ : List Oper} {t₀ : Env} {H₀ : AHeap} {Q : Exit → Env → AHeap → Prop} {l : List Oper} {t : Env} {H : AHeap} {acc : List Ev} {d : Nat} {op : Op} {ty : TypeId} {pos : String} {af : Array Edge} {v : Value}
theorem DTr.aI {cells : List Value} {i : Nat} {H' : AHeap} (hd : Nat.blt d N = true) (hs : noSel op = true) (hi : H.length = i) (hH : H ++ [AObj.row false cells] = H') (h : AOk P N ⟨some d, op, ty, pos, af, none⟩ (restr (Oper.looksAt l₀.toArray ⟨some d, op, ty, pos, af, none⟩) t) cells i v)
    (k : DTr P N l₀ t₀ H₀ Q l ((d, v) :: t) H' (acc ++ [⟨.alloc cells, v, H, H'⟩])) : DTr P N l₀ t₀ H₀ Q (⟨some d, op, ty, pos, af, none⟩ :: l) t H acc := by
  subst hi hH; exact DTr.a hd hs h k
end
theorem AWp.cutQ {P : Program} {N : Nat} {x : Code} {t : Env} {H : AHeap} {Q : Exit → Env → AHeap → Prop} (M : Env → AHeap → Prop) (h1 : AWp P N x t H (aThen M Q)) (h2 : ∀ t' H', M t' H' → Q .normal t' H') : AWp P N x t H Q :=
  h1.mono fun e t' H' h => by cases e <;> first | exact h2 _ _ h | exact h
def ordOk1 (ops : List Oper) (wr ra : List Bool) (k0 u0 : Nat) : Bool :=
  let bef := befAll ops
  (List.range ra.length).all fun k => !(ra.getD k false) || (List.range wr.length).all fun u => !(wr.getD u false) || (bef.getD u []).contains k || (bef.getD k []).contains u || (k == k0 && u == u0)
/-- the same, but for one reader and one writer -/
theorem dyn_one {ops : List Oper} {es : List Ev} (k0 u0 i : Nat) {e0 f0 : Ev} (he : es[k0]? = some e0) (hf0 : es[u0]? = some f0) (hr : ∀ cs, e0.kd = .read cs → ∀ c ∈ cs, c.1 = i) (ha : ∀ cells, e0.kd ≠ .alloc cells) (hh : hget f0.H' i = hget f0.H i)
    (h : ordOk1 ops (es.map fun e => e.kd.isWrite) (es.map fun e => e.kd.isRA) k0 u0 = true) : dynOk ops es := by
  intro k e hk u f hu hf hun
  unfold ordOk1 at h
  rw [List.all_eq_true] at h
  have hkl : k < es.length := (List.getElem?_eq_some_iff.1 hk).1
  have hul : u < es.length := (List.getElem?_eq_some_iff.1 hu).1
  have h1 := h k (List.mem_range.2 (by rw [List.length_map]; exact hkl))
  rw [Bool.or_eq_true, List.all_eq_true] at h1
  have e1 : (es.map fun e => e.kd.isRA).getD k false = e.kd.isRA := by rw [List.getD_eq_getElem?_getD, List.getElem?_map, hk]; rfl
  have e2 : (es.map fun e => e.kd.isWrite).getD u false = true := by rw [List.getD_eq_getElem?_getD, List.getElem?_map, hu]; show f.kd.isWrite = true; rw [hf]; rfl
  rcases h1 with h1 | h1
  · rw [e1] at h1
    cases hkd : e.kd <;> dsimp only <;> (rw [hkd] at h1; cases h1)
  · have h2 := h1 u (List.mem_range.2 (by rw [List.length_map]; exact hul))
    rw [e2] at h2
    simp only [Bool.not_true, Bool.false_or, Bool.or_eq_true, List.contains_iff_mem, Bool.and_eq_true, beq_iff_eq] at h2
    rcases h2 with h2 | ⟨rfl, rfl⟩
    · exact absurd h2 (not_or.2 hun)
    · rw [he] at hk; rw [hf0] at hu
      obtain rfl := Option.some.inj hk
      obtain rfl := Option.some.inj hu
      cases hkd : e0.kd with
      | read cs => dsimp only; intro c hc _; rw [hr cs hkd c hc]; exact hh
      | alloc cells => exact absurd hkd (ha cells)
      | _ => dsimp only
/-- copying rows of arrays -/
def cpyR (z : List Int) (l : List (List Int)) (n i : Nat) : List (List Int) := (List.range n).map fun j => if j < i then rw_ l j else z
theorem cpyR_length (z : List Int) (l : List (List Int)) (n i : Nat) : (cpyR z l n i).length = n := by simp [cpyR]
theorem cpyR_all {m : Nat} {z : List Int} {l : List (List Int)} {n i : Nat} (h : All m l) (hz : z.length = m) (hn : n ≤ l.length) : All m (cpyR z l n i) := by
  intro r hr
  obtain ⟨j, hj, rfl⟩ := List.mem_map.1 hr
  have := List.mem_range.1 hj
  split
  · exact rw_len h (by omega)
  · exact hz
theorem cpyR_zero (z : List Int) (l : List (List Int)) (n : Nat) : cpyR z l n 0 = List.replicate n z := by
  apply List.ext_getElem?
  intro j
  by_cases h : j < n <;> simp [cpyR, h, List.getElem?_replicate]
theorem cpyR_set (z : List Int) (l : List (List Int)) (n i : Nat) (h : i < n) : (cpyR z l n i).set i (rw_ l i) = cpyR z l n (i + 1) := by
  apply List.ext_getElem?
  intro j
  rw [List.getElem?_set]
  by_cases hj : i = j
  · subst hj; simp [cpyR, h]
  · rw [if_neg hj]
    by_cases h3 : j < n
    · have : (j < i) = (j < i + 1) := propext (by omega)
      simp [cpyR, h3, this]
    · simp [cpyR, h3]
theorem cpyR_full (z : List Int) (l : List (List Int)) (n i : Nat) (h : n ≤ i) (hm : l.length = n) : cpyR z l n i = l := by
  apply List.ext_getElem?
  intro j
  by_cases h3 : j < n
  · simp [cpyR, h3, (by omega : j < i), rw_, List.getD_eq_getElem?_getD, List.getElem?_eq_getElem (by omega : j < l.length)]
  · rw [List.getElem?_eq_none (by rw [cpyR_length]; omega), List.getElem?_eq_none (by omega)]
end Go.Proofs.YtfiilgnebmidbaaDoor.Am
/-
  Rules in the shape in which a program prints them: append, slices written out. No condition.
-/
namespace Go.Proofs.YtfiilgnebmidbaaDoor.Am
open Go Go.RowKit
set_option linter.unusedVariables false
set_option linter.unusedSimpArgs false


/-- A buffer that grows: the first n elements (m cells each) of its row; its room is full, or not known. -/
def Buf (b : Nat) (H : AHeap) (p : Option Addr) (n c m : Nat) (us : List Value) : Prop :=
  us.length = n * m ∧ ((p = none ∧ n = 0 ∧ c = 0) ∨ ∃ i, p = some ⟨i, 0, none⟩ ∧ b ≤ i ∧ hget H i = .row false us ∧ (c = capU + m ∨ (c = n ∧ c < capU)))
def kill (p : Option Addr) (H : AHeap) : AHeap := match p with | none => H | some a => H.set a.block .dead
theorem kill_length (p : Option Addr) (H : AHeap) : (kill p H).length = H.length := by cases p <;> simp [kill]
theorem kill_get {b : Nat} {H : AHeap} {p : Option Addr} {n c m : Nat} {us : List Value} (h : Buf b H p n c m us) {j : Nat} (hj : j < b) : hget (kill p H) j = hget H j := by
  rcases h with ⟨_, ⟨rfl, _⟩ | ⟨i, rfl, hi, _⟩⟩
  · rfl
  · exact hget_set_other _ (by show i ≠ j; omega)
section
variable {P : Program} {N : Nat} {t : Env} {H : AHeap} {d : Option Tmp} {ty : TypeId} {pos : String} {af : Array Edge} {g : Option (Nat × Bool)}
theorem OpOk.killed {o : Oper} {v : Value} {H' : AHeap} (i : Nat) (h : OpOk P N o t H v H') : OpOk P N o t H v (H'.set i .dead) := by
  intro W φ w a hs he
  refine (h W φ w a hs he).mono fun v' w' => ?_
  rintro ⟨φ', k1, k2, k3⟩
  have := kill_ok i k1
  exact ⟨φ', this.1, k2, k3.trans this.2⟩
theorem s_append {sT xT E m by_ n c k cx j i' b : Nat} {ro : Bool} {ti : TypeInfo} {s x : Operand} {p : Option Addr} {us vs : List Value} {z : Value} {H' : AHeap} (hT : P.underlying sT = some (.slice E)) (hX : P.underlying xT = some (.slice E))
    (hi : ∀ w, (typeInfo E).run P w = .ok ti w) (hm : ∀ w, (sizeOf E).run P w = .ok m w) (hz : ∀ w, (zeroValue E).run P w = .ok z w) (hb : ti.bytes = by_) (hzm : z.cells.size = m) (hmU : Nat.blt m 1000000 = true)
    (hs0 : aEv t s = some (.slice p n c)) (hx0 : aEv t x = some (.slice (some ⟨j, 0, none⟩) k cx)) (hB : Buf b H p n c m us) (hg : hget H j = .row ro vs) (hvl : vs.length = k * m) (hk : 0 < k) (hones : ∀ v ∈ vs, oneCell v = true) (hroom : roomy (n + k) by_)
    (hidx : H.length = i') (hH : kill p H ++ [.row false (us ++ vs)] = H') :
    OpOk P N ⟨d, .call { callee := .builtin .append, args := #[s, x], argTypes := #[sT, xT] }, ty, pos, af, g⟩ t H (.slice (some ⟨i', 0, none⟩) (n + k) (capU + m)) H' := by
  subst hidx hH
  have hx : SliceIs H m (.slice (some ⟨j, 0, none⟩) k cx) vs := .inl ⟨j, 0, k, cx, rfl, hvl, fun q u e => by rw [Nat.zero_add]; exact row_cell hg e⟩
  obtain ⟨hul, ⟨rfl, rfl, rfl⟩ | ⟨i, rfl, hbi, hgi, hc⟩⟩ := hB
  · obtain rfl : us = [] := List.eq_nil_of_length_eq_zero (by omega)
    exact m_append_new hs0 hx0 hT hX hi hb hm hz hzm (.inr ⟨rfl, rfl⟩) hx (by decide) (by omega) hroom
  · have hu : SliceIs H m (.slice (some ⟨i, 0, none⟩) n c) us := .inl ⟨i, 0, n, c, rfl, hul, fun q u e => by rw [Nat.zero_add]; exact row_cell hgi e⟩
    rcases hc with rfl | ⟨rfl, hc⟩
    · exact m_append_u hs0 hx0 hT hX hi hb hm hz hzm hgi hu hx hones hroom hmU
    · have := (m_append_new (N := N) (d := d) (ty := ty) (pos := pos) (af := af) (g := g) hs0 hx0 hT hX hi hb hm hz hzm hu hx hc (by omega) hroom).killed i
      have hlt := row_lt hgi
      rw [List.set_append_left _ _ hlt] at this
      exact this
/-- what append leaves -/
theorem Buf.next {b : Nat} {H : AHeap} {p : Option Addr} {n k c m : Nat} {us vs : List Value} (h : Buf b H p n c m us) (hb : b ≤ H.length) (hv : vs.length = k * m) :
    Buf b (kill p H ++ [.row false (us ++ vs)]) (some ⟨H.length, 0, none⟩) (n + k) (capU + m) m (us ++ vs) := by
  refine ⟨by rw [List.length_append, h.1, hv, Nat.add_mul], .inr ⟨_, rfl, hb, ?_, .inl rfl⟩⟩
  rw [← kill_length p H]; exact hget_last _ _
theorem append_get {b : Nat} {H : AHeap} {p : Option Addr} {n c m : Nat} {us : List Value} {o : AObj} (h : Buf b H p n c m us) {j : Nat} (hb : b ≤ H.length) (hj : j < b) : hget (kill p H ++ [o]) j = hget H j := by
  rw [hget_append_lt (by rw [kill_length]; omega)]; exact kill_get h hj

/-- a slice of ints written out -/
theorem s_buildInts {T E : TypeId} {len i : Nat} {ps : List (Nat × Operand)} {vs : List (Nat × Value)} {xs : List Int} {z : Value} {H' : AHeap} (hT : P.underlying T = some (.slice E)) (hm : ∀ w, (sizeOf E).run P w = .ok 1 w) (hz : ∀ w, (zeroValue E).run P w = .ok z w) (hzc : z.cells.toList = ints [0])
    (hp : ps.map (fun p => (p.1, aEv t p.2)) = vs.map (fun p => (p.1, some p.2))) (hlen : len ≤ 16777216) (hcs : partsOf 1 vs (ints (List.replicate len 0)) = some (ints xs)) (hl : xs.length = len) (hidx : H.length = i) (hH : H ++ [AObj.row false (ints xs)] = H') :
    OpOk P N ⟨d, .buildSlice T len ps.toArray, ty, pos, af, g⟩ t H (.slice (some ⟨i, 0, none⟩) len len) H' := by
  subst hidx hH
  refine m_buildSlice hp hT hm hz (by rw [hzc]; exact ints_flat) (by rw [← Array.length_toList, hzc]; rfl) Nat.one_pos (by omega) ?_ (by rw [ints_length]; omega)
  rw [hzc, make_cells, flatten_single]; exact hcs
theorem parts_row {m i : Nat} {r : List Int} {l : List (List Int)} {rest : List (Nat × Value)} (hl : All m l) (hr : r.length = m) (hi : i < l.length) :
    partsOf m ((i, .agg (ints r).toArray) :: rest) (ints l.flatten) = partsOf m rest (ints (l.set i r).flatten) := by
  have hb : i * m + m ≤ l.length * m := by rw [← Nat.succ_mul]; exact Nat.mul_le_mul_right _ hi
  rw [partsOf, if_pos ⟨by simp [Value.cells, ints_length, hr], by rw [ints_length, flat_len hl]; exact hb⟩]
  have : (Value.agg (ints r).toArray).cells.toList = ints r := rfl
  rw [this, flat_setMany hl hr hi]
/-- two arrays -/
theorem s_build2 {T E : TypeId} {m i : Nat} {x y : Operand} {r q : List Int} {z : Value} {zr : List Int} {H' : AHeap} (hT : P.underlying T = some (.slice E)) (hm : ∀ w, (sizeOf E).run P w = .ok m w) (hz : ∀ w, (zeroValue E).run P w = .ok z w) (hzc : z.cells.toList = ints zr) (hzr : zr.length = m)
    (hm0 : 0 < m) (hmb : m ≤ 1000) (hx : aEv t x = some (.agg (ints r).toArray)) (hy : aEv t y = some (.agg (ints q).toArray)) (hr : r.length = m) (hq : q.length = m) (hidx : H.length = i) (hH : H ++ [AObj.row false (ints [r, q].flatten)] = H') :
    OpOk P N ⟨d, .buildSlice T 2 [(0, x), (1, y)].toArray, ty, pos, af, g⟩ t H (.slice (some ⟨i, 0, none⟩) 2 2) H' := by
  subst hidx hH
  have hrep : All m (List.replicate 2 zr) := fun r h => by rw [List.eq_of_mem_replicate h]; exact hzr
  refine m_buildSlice (vs := [(0, .agg (ints r).toArray), (1, .agg (ints q).toArray)]) (by simp [hx, hy]) hT hm hz (by rw [hzc]; exact ints_flat) (by rw [← Array.length_toList, hzc, ints_length]; exact hzr) hm0 (by omega) ?_ ?_
  · rw [hzc, make_cells, parts_row hrep hr (by simp), parts_row (hrep.set hr 0) hq (by simp)]
    rfl
  · rw [ints_length, flat_len (m := m) (l := [r, q]) (fun x h => by simp at h; rcases h with rfl | rfl <;> assumption)]; rfl
end
theorem ints_app (a b : List Int) : ints a ++ ints b = ints (a ++ b) := by simp [ints]
theorem intsf_app (a b : List (List Int)) : ints a.flatten ++ ints b.flatten = ints (a ++ b).flatten := by simp [ints]
theorem all_nil {m : Nat} : All m [] := fun r h => by cases h
theorem all_two {m : Nat} {r q : List Int} (hr : r.length = m) (hq : q.length = m) : All m [r, q] := fun x h => by simp at h; rcases h with rfl | rfl <;> assumption
theorem all_app {m : Nat} {l k : List (List Int)} (h1 : All m l) (h2 : All m k) : All m (l ++ k) := fun r h => (List.mem_append.1 h).elim (h1 r) (h2 r)
/-! for memory that is known by facts alone -/
theorem Buf.more {b : Nat} {H l : AHeap} {p : Option Addr} {n c m : Nat} {us : List Value} (h : Buf b H p n c m us) : Buf b (H ++ l) p n c m us := by
  obtain ⟨h1, h2 | ⟨i, h3, h4, h5, h6⟩⟩ := h
  · exact ⟨h1, .inl h2⟩
  · exact ⟨h1, .inr ⟨i, h3, h4, by rw [hget_append_lt (row_lt h5)]; exact h5, h6⟩⟩
theorem Buf.same {b : Nat} {H H' : AHeap} {p : Option Addr} {n c m : Nat} {us : List Value} (h : Buf b H p n c m us) (k : ∀ a, p = some a → hget H' a.block = hget H a.block) : Buf b H' p n c m us := by
  obtain ⟨h1, h2 | ⟨i, h3, h4, h5, h6⟩⟩ := h
  · exact ⟨h1, .inl h2⟩
  · exact ⟨h1, .inr ⟨i, h3, h4, by rw [k _ h3]; exact h5, h6⟩⟩
theorem append_get2 {H : AHeap} {p : Option Addr} {o : AObj} {j : Nat} (hj : j < H.length) (hne : ∀ a, p = some a → a.block ≠ j) : hget (kill p H ++ [o]) j = hget H j := by
  rw [hget_append_lt (by rw [kill_length]; exact hj)]
  cases p with
  | none => rfl
  | some a => exact hget_set_other _ (hne a rfl)
theorem append_new {H : AHeap} {p : Option Addr} {o : AObj} : hget (kill p H ++ [o]) H.length = o := by
  rw [← kill_length p H]; exact hget_last _ _
theorem append_len {H : AHeap} {p : Option Addr} {o : AObj} : (kill p H ++ [o]).length = H.length + 1 := by rw [List.length_append, kill_length]; rfl
theorem Buf.below {b j : Nat} {H : AHeap} {p : Option Addr} {n c m : Nat} {us : List Value} (h : Buf b H p n c m us) (hj : j < b) : ∀ a, p = some a → a.block ≠ j := by
  intro a e
  obtain ⟨_, ⟨rfl, _⟩ | ⟨i, rfl, h4, _⟩⟩ := h
  · cases e
  · obtain rfl := Option.some.inj e; show i ≠ j; omega
theorem Buf.new {b : Nat} {H : AHeap} {i n c m : Nat} {us : List Value} (hb : b ≤ i) (hg : hget H i = .row false us) (hl : us.length = n * m) (hc : c = capU + m ∨ (c = n ∧ c < capU)) : Buf b H (some ⟨i, 0, none⟩) n c m us :=
  ⟨hl, .inr ⟨i, rfl, hb, hg, hc⟩⟩
theorem Buf.nil (b : Nat) (H : AHeap) (m : Nat) : Buf b H none 0 0 m [] := ⟨by simp, .inl ⟨rfl, rfl, rfl⟩⟩
theorem Buf.row {b : Nat} {H : AHeap} {i n c m : Nat} {us : List Value} (h : Buf b H (some ⟨i, 0, none⟩) n c m us) : hget H i = .row false us ∧ b ≤ i ∧ us.length = n * m := by
  obtain ⟨h1, ⟨h2, _⟩ | ⟨j, h3, h4, h5, h6⟩⟩ := h
  · cases h2
  · have : i = j := by injection h3 with h3; injection h3
    subst this; exact ⟨h5, h4, h1⟩
section
variable {P : Program} {N : Nat} {t : Env} {H : AHeap} {d : Option Tmp} {ty : TypeId} {pos : String} {af : Array Edge} {g : Option (Nat × Bool)}
/-- the same, in drawn order -/
theorem a_buildInts {T E : TypeId} {len i : Nat} {ps : List (Nat × Operand)} {vs : List (Nat × Value)} {xs : List Int} {z : Value} (hT : P.underlying T = some (.slice E)) (hm : ∀ w, (sizeOf E).run P w = .ok 1 w) (hz : ∀ w, (zeroValue E).run P w = .ok z w) (hzc : z.cells.toList = ints [0])
    (hp : ps.map (fun p => (p.1, aEv t p.2)) = vs.map (fun p => (p.1, some p.2))) (hlen : len ≤ 16777216) (hcs : partsOf 1 vs (ints (List.replicate len 0)) = some (ints xs)) (hl : xs.length = len) :
    AOk P N ⟨d, .buildSlice T len ps.toArray, ty, pos, af, g⟩ t (ints xs) i (.slice (some ⟨i, 0, none⟩) len len) := by
  refine a_buildSlice hp hT hm hz (by rw [hzc]; exact ints_flat) (by rw [← Array.length_toList, hzc]; rfl) Nat.one_pos (by omega) ?_ (by rw [ints_length]; omega)
  rw [hzc, make_cells, flatten_single]; exact hcs
theorem a_build2 {T E : TypeId} {m i : Nat} {x y : Operand} {r q : List Int} {z : Value} {zr : List Int} (hT : P.underlying T = some (.slice E)) (hm : ∀ w, (sizeOf E).run P w = .ok m w) (hz : ∀ w, (zeroValue E).run P w = .ok z w) (hzc : z.cells.toList = ints zr) (hzr : zr.length = m)
    (hm0 : 0 < m) (hmb : m ≤ 1000) (hx : aEv t x = some (.agg (ints r).toArray)) (hy : aEv t y = some (.agg (ints q).toArray)) (hr : r.length = m) (hq : q.length = m) :
    AOk P N ⟨d, .buildSlice T 2 [(0, x), (1, y)].toArray, ty, pos, af, g⟩ t (ints [r, q].flatten) i (.slice (some ⟨i, 0, none⟩) 2 2) := by
  have hrep : All m (List.replicate 2 zr) := fun r h => by rw [List.eq_of_mem_replicate h]; exact hzr
  refine a_buildSlice (vs := [(0, .agg (ints r).toArray), (1, .agg (ints q).toArray)]) (by simp [hx, hy]) hT hm hz (by rw [hzc]; exact ints_flat) (by rw [← Array.length_toList, hzc, ints_length]; exact hzr) hm0 (by omega) ?_ ?_
  · rw [hzc, make_cells, parts_row hrep hr (by simp), parts_row (hrep.set hr 0) hq (by simp)]
    rfl
  · rw [ints_length, flat_len (m := m) (l := [r, q]) (fun x h => by simp at h; rcases h with rfl | rfl <;> assumption)]; rfl
theorem s_indexP {T : TypeId} {x y : Operand} {E : TypeId} {m q : Nat} {k : IntKind} {n : Int} {i o len c : Nat} {p : Option Addr} (hT : P.underlying T = some (.slice E)) (hm : ∀ w, (sizeOf E).run P w = .ok m w) (hx : aEv t x = some (.slice p len c)) (hp : p = some ⟨i, o, none⟩) (hy : aEv t y = some (.int k n))
    (h0 : 0 ≤ n) (h1 : n < len) (hq : o + n.toNat * m = q) : PureOk P N ⟨d, .indexAddr T x y, ty, pos, af, g⟩ t (.pointer (some ⟨i, q, none⟩)) := by subst hp; exact s_indexSl hT hm hx hy h0 h1 hq
end
end Go.Proofs.YtfiilgnebmidbaaDoor.Am
/-
  Tables: a slice of slices of ints, by the list of its rows (number, room, ints). No condition.
-/
namespace Go.Proofs.YtfiilgnebmidbaaDoor.Am
open Go Go.RowKit
set_option linter.unusedVariables false
set_option linter.unusedSimpArgs false

abbrev Tab := List (Nat × Nat × List Int)
def Tab.cells (T : Tab) : List Value := T.map hdr
def Tab.ids (T : Tab) : List Nat := T.map (·.1)
def Tab.rows (T : Tab) : List (List Int) := T.map (·.2.2)
def Tab.caps (T : Tab) : List (Nat × List Int) := T.map (·.2)
/-- its rows lie in memory -/
def TabR (H : AHeap) (T : Tab) : Prop := ∀ x ∈ T, ∃ ro, hget H x.1 = .row ro (ints x.2.2)
/-- .. are one's own, each by itself -/
def TabW (b : Nat) (H : AHeap) (T : Tab) : Prop := T.ids.Nodup ∧ ∀ x ∈ T, b ≤ x.1 ∧ hget H x.1 = .row false (ints x.2.2)
theorem TabW.r {b : Nat} {H : AHeap} {T : Tab} (h : TabW b H T) : TabR H T := fun x hx => ⟨false, (h.2 x hx).2⟩
theorem TabR.more {H l : AHeap} {T : Tab} (h : TabR H T) : TabR (H ++ l) T := fun x hx => by
  obtain ⟨ro, e⟩ := h x hx; exact ⟨ro, by rw [hget_append_lt (row_lt e)]; exact e⟩
theorem TabW.more {b : Nat} {H l : AHeap} {T : Tab} (h : TabW b H T) : TabW b (H ++ l) T := ⟨h.1, fun x hx => ⟨(h.2 x hx).1, by rw [hget_append_lt (row_lt (h.2 x hx).2)]; exact (h.2 x hx).2⟩⟩
theorem TabW.same {b : Nat} {H H' : AHeap} {T : Tab} (h : TabW b H T) (k : ∀ x ∈ T, hget H' x.1 = hget H x.1) : TabW b H' T := ⟨h.1, fun x hx => ⟨(h.2 x hx).1, by rw [k x hx]; exact (h.2 x hx).2⟩⟩
theorem TabR.same {H H' : AHeap} {T : Tab} (h : TabR H T) (k : ∀ x ∈ T, hget H' x.1 = hget H x.1) : TabR H' T := fun x hx => by
  obtain ⟨ro, e⟩ := h x hx; exact ⟨ro, by rw [k x hx]; exact e⟩
theorem TabW.nil (b : Nat) (H : AHeap) : TabW b H [] := ⟨List.nodup_nil, fun x h => by cases h⟩
theorem TabR.nil (H : AHeap) : TabR H [] := fun x h => by cases h
theorem TabR.lt {H : AHeap} {T : Tab} (h : TabR H T) {x : Nat × Nat × List Int} (hx : x ∈ T) : x.1 < H.length := by obtain ⟨ro, e⟩ := h x hx; exact row_lt e
theorem TabW.add {b : Nat} {H : AHeap} {T : Tab} {i c : Nat} {xs : List Int} (h : TabW b H T) (hb : b ≤ i) (hi : hget H i = .row false (ints xs)) (hn : ∀ x ∈ T, x.1 ≠ i) : TabW b H (T ++ [(i, c, xs)]) := by
  refine ⟨?_, fun x hx => ?_⟩
  · unfold Tab.ids
    rw [List.map_append, List.nodup_append]
    refine ⟨h.1, by simp, fun a ha b' hb' => ?_⟩
    obtain ⟨x, hx, rfl⟩ := List.mem_map.1 ha
    simp at hb'; subst hb'
    exact hn x hx
  · rcases List.mem_append.1 hx with hx | hx
    · exact h.2 x hx
    · simp at hx; subst hx; exact ⟨hb, hi⟩
theorem Tab.cells_app (S T : Tab) : Tab.cells (S ++ T) = S.cells ++ T.cells := List.map_append
theorem Tab.cells_len (T : Tab) : T.cells.length = T.length := List.length_map _
def trow (T : Tab) (j : Nat) : Nat × Nat × List Int := T.getD j (0, 0, [])
theorem trow_mem {T : Tab} {j : Nat} (h : j < T.length) : trow T j ∈ T := by
  unfold trow; rw [List.getD_eq_getElem?_getD, List.getElem?_eq_getElem h]; exact List.getElem_mem h
theorem Tab.cell {T : Tab} {j : Nat} (h : j < T.length) : T.cells[j]? = some (.slice (some ⟨(trow T j).1, 0, none⟩) (trow T j).2.2.length (trow T j).2.1) := by
  unfold Tab.cells trow; rw [List.getElem?_map, List.getD_eq_getElem?_getD, List.getElem?_eq_getElem h]; rfl
theorem Tab.rows_rw {T : Tab} {j : Nat} (h : j < T.length) : rw_ T.rows j = (trow T j).2.2 := by
  unfold Tab.rows rw_ trow; rw [List.getD_eq_getElem?_getD, List.getD_eq_getElem?_getD, List.getElem?_map, List.getElem?_eq_getElem h]; rfl
theorem Tab.rows_len (T : Tab) : T.rows.length = T.length := List.length_map _

/-- The table handed out: rows one behind the other. -/
def canT : Nat → List (Nat × List Int) → Tab
  | _, [] => []
  | b, y :: ys => (b, y) :: canT (b + 1) ys
theorem canT_len : ∀ (Y : List (Nat × List Int)) (b : Nat), (canT b Y).length = Y.length
  | [], _ => rfl
  | y :: ys, b => by simp [canT, canT_len ys (b + 1)]
theorem canT_rows : ∀ (Y : List (Nat × List Int)) (b : Nat), (canT b Y).rows = Y.map (·.2)
  | [], _ => rfl
  | y :: ys, b => by unfold canT Tab.rows; rw [List.map_cons, List.map_cons]; congr 1; exact canT_rows ys (b + 1)
theorem canT_get : ∀ (Y : List (Nat × List Int)) (b j : Nat), (canT b Y)[j]? = (Y[j]?).map fun y => (b + j, y)
  | [], b, j => by simp [canT]
  | y :: ys, b, 0 => by simp [canT]
  | y :: ys, b, j + 1 => by
    unfold canT
    rw [List.getElem?_cons_succ, List.getElem?_cons_succ, canT_get ys (b + 1) j]
    congr 1; funext y; congr 1; omega
theorem canT_ids {Y : List (Nat × List Int)} {b : Nat} : ∀ x ∈ canT b Y, b ≤ x.1 ∧ x.1 < b + Y.length := by
  intro x hx
  obtain ⟨j, hj, e⟩ := List.getElem_of_mem hx
  have h := canT_get Y b j
  rw [List.getElem?_eq_getElem hj, e] at h
  rw [canT_len] at hj
  rw [List.getElem?_eq_getElem hj] at h
  obtain rfl := Option.some.inj h
  exact ⟨Nat.le_add_right _ _, by show b + j < _; omega⟩
theorem canT_nodup : ∀ (Y : List (Nat × List Int)) (b : Nat), (canT b Y).ids.Nodup
  | [], _ => List.nodup_nil
  | y :: ys, b => by
    unfold canT Tab.ids
    rw [List.map_cons, List.nodup_cons]
    refine ⟨fun h => ?_, canT_nodup ys (b + 1)⟩
    obtain ⟨x, hx, e⟩ := List.mem_map.1 h
    have := (canT_ids x hx).1
    have e' : x.1 = b := e
    omega
def placed (b : Nat) (Y : List (Nat × List Int)) : AHeap := AObj.row false (canT (b + 1) Y).cells :: Y.map fun y => AObj.row false (ints y.2)
theorem placed_len (b : Nat) (Y : List (Nat × List Int)) : (placed b Y).length = Y.length + 1 := by simp [placed]
theorem placed_get (H : AHeap) (Y : List (Nat × List Int)) : hget (H ++ placed H.length Y) H.length = .row false (canT (H.length + 1) Y).cells := by
  rw [hget_append_ge (Nat.le_refl _), Nat.sub_self]; rfl
theorem placed_row {H : AHeap} {Y : List (Nat × List Int)} {j : Nat} {y : Nat × List Int} (h : Y[j]? = some y) : hget (H ++ placed H.length Y) (H.length + 1 + j) = .row false (ints y.2) := by
  rw [hget_append_ge (by omega), show H.length + 1 + j - H.length = j + 1 by omega]
  unfold placed hget
  rw [List.getD_cons_succ, List.getD_eq_getElem?_getD, List.getElem?_map, h]; rfl
theorem placed_tab (H : AHeap) (Y : List (Nat × List Int)) : TabW (H.length + 1) (H ++ placed H.length Y) (canT (H.length + 1) Y) := by
  refine ⟨canT_nodup _ _, fun x hx => ⟨(canT_ids x hx).1, ?_⟩⟩
  obtain ⟨j, hj, e⟩ := List.getElem_of_mem hx
  have h := canT_get Y (H.length + 1) j
  rw [List.getElem?_eq_getElem hj, e] at h
  rw [canT_len] at hj
  rw [List.getElem?_eq_getElem hj] at h
  obtain rfl := Option.some.inj h
  exact placed_row (List.getElem?_eq_getElem hj)

def σT (n o : Nat) (T : Tab) (i : Nat) : Option Nat := if i < n then some i else if i = n then some o else (T[i - (n + 1)]?).map (·.1)
/-- a table that was made is handed out -/
theorem Fin.tab {H G : AHeap} {v v₀ : Value} {o : Nat} {T : Tab} {Y : List (Nat × List Int)} (hold : ∀ i, i < H.length → hget G i = hget H i) (ho : H.length ≤ o) (hg : hget G o = .row false T.cells) (hT : TabW H.length G T)
    (hno : ∀ x ∈ T, x.1 ≠ o) (hY : T.caps = Y) (hv : Ren (σT H.length o T) v₀ v) : Fin H v G v₀ (H ++ placed H.length Y) := by
  have hlen : T.length = Y.length := by rw [← hY]; simp [Tab.caps]
  have new : ∀ i k, σT H.length o T i = some k → (i < H.length ∧ k = i) ∨ (i = H.length ∧ k = o) ∨ ∃ j x, i = H.length + 1 + j ∧ T[j]? = some x ∧ k = x.1 := by
    intro i k h
    unfold σT at h
    split at h
    · exact .inl ⟨by assumption, (Option.some.inj h).symm⟩
    · split at h
      · exact .inr (.inl ⟨by assumption, (Option.some.inj h).symm⟩)
      · obtain ⟨x, hx, e⟩ := Option.map_eq_some_iff.1 h
        exact .inr (.inr ⟨i - (H.length + 1), x, by omega, hx, e.symm⟩)
  have inj : ∀ (j j' : Nat) (x x' : Nat × Nat × List Int), T[j]? = some x → T[j']? = some x' → x.1 = x'.1 → j = j' := by
    intro j j' x x' h1 h2 e
    have hn := hT.1
    have e1 : T.ids[j]? = some x.1 := by unfold Tab.ids; rw [List.getElem?_map, h1]; rfl
    have e2 : T.ids[j']? = some x.1 := by unfold Tab.ids; rw [List.getElem?_map, h2, e]; rfl
    have hj : j < T.ids.length := (List.getElem?_eq_some_iff.1 e1).1
    exact (List.getElem?_inj hj hn).1 (e1.trans e2.symm)
  refine Fin.ren (σT H.length o T) (by simp) (fun i k h => ?_) (fun i hi => if_pos hi) (fun i i' k h1 h2 => ?_) (fun i k h => ?_) hv
  · rw [List.length_append, placed_len]
    rcases new i k h with ⟨h, _⟩ | ⟨h, _⟩ | ⟨j, x, h, hx, _⟩
    · omega
    · omega
    · have := (List.getElem?_eq_some_iff.1 hx).1; omega
  · rcases new i k h1 with ⟨a1, b1⟩ | ⟨a1, b1⟩ | ⟨j, x, a1, hx, b1⟩ <;> rcases new i' k h2 with ⟨a2, b2⟩ | ⟨a2, b2⟩ | ⟨j', x', a2, hx', b2⟩
    · omega
    · omega
    · have := (hT.2 x' (List.mem_of_getElem? hx')).1; omega
    · omega
    · omega
    · exact absurd (b2.symm.trans b1) (hno x' (List.mem_of_getElem? hx'))
    · have := (hT.2 x (List.mem_of_getElem? hx)).1; omega
    · exact absurd (b1.symm.trans b2) (hno x (List.mem_of_getElem? hx))
    · have := inj j j' x x' hx hx' (b1.symm.trans b2); omega
  · rcases new i k h with ⟨a1, rfl⟩ | ⟨rfl, rfl⟩ | ⟨j, x, rfl, hx, rfl⟩
    · rw [hget_append_lt a1, hold _ a1]; exact .old a1
    · rw [placed_get, hg]
      refine .row _ _ (by rw [Tab.cells_len, Tab.cells_len, canT_len]; exact hlen.symm) fun j c' c e e' => ?_
      unfold Tab.cells at e e'
      rw [List.getElem?_map] at e e'
      obtain ⟨y', hy', rfl⟩ := Option.map_eq_some_iff.1 e
      obtain ⟨y, hy, rfl⟩ := Option.map_eq_some_iff.1 e'
      rw [canT_get] at hy'
      obtain ⟨z, hz, rfl⟩ := Option.map_eq_some_iff.1 hy'
      rw [← hY] at hz
      unfold Tab.caps at hz
      rw [List.getElem?_map, hy] at hz
      obtain rfl := Option.some.inj hz
      refine .slice _ _ _ _ _ ?_
      unfold σT
      rw [if_neg (by show ¬ H.length + 1 + j < _; omega), if_neg (by show ¬ H.length + 1 + j = _; omega)]
      show (T[H.length + 1 + j - (H.length + 1)]?).map _ = _
      rw [show H.length + 1 + j - (H.length + 1) = j by omega, hy]; rfl
    · have hy : Y[j]? = some x.2 := by rw [← hY]; unfold Tab.caps; rw [List.getElem?_map, hx]; rfl
      rw [placed_row hy, (hT.2 x (List.mem_of_getElem? hx)).2]
      exact .row _ _ rfl fun q c' c e e' => by rw [e] at e'; obtain rfl := Option.some.inj e'; exact .flat _ (flat0_ok (ints_flat _ (List.mem_of_getElem? e)))
theorem ren_tab {n o m c : Nat} {T : Tab} : Ren (σT n o T) (.slice (some ⟨n, 0, none⟩) m c) (.slice (some ⟨o, 0, none⟩) m c) := .slice _ _ _ _ _ (by unfold σT; rw [if_neg (Nat.lt_irrefl _), if_pos rfl])

/-- rows written over -/
def setT (G : AHeap) (T : Tab) : AHeap := T.foldl (fun G x => G.set x.1 (.row false (ints x.2.2))) G
theorem setT_len : ∀ (T : Tab) (G : AHeap), (setT G T).length = G.length
  | [], _ => rfl
  | x :: T, G => by show (setT (G.set x.1 _) T).length = _; rw [setT_len T, List.length_set]
theorem setT_out : ∀ (T : Tab) (G : AHeap) (i : Nat), (∀ x ∈ T, x.1 ≠ i) → hget (setT G T) i = hget G i
  | [], _, _, _ => rfl
  | x :: T, G, i, h => by
    show hget (setT (G.set x.1 _) T) i = _
    rw [setT_out T _ i (fun y hy => h y (List.mem_cons_of_mem _ hy)), hget_set_other _ (h x (List.mem_cons_self ..))]
theorem setT_in : ∀ (T : Tab) (G : AHeap), T.ids.Nodup → (∀ x ∈ T, x.1 < G.length) → ∀ x ∈ T, hget (setT G T) x.1 = .row false (ints x.2.2)
  | [], _, _, _, x, hx => by cases hx
  | y :: T, G, hn, hl, x, hx => by
    show hget (setT (G.set y.1 _) T) x.1 = _
    unfold Tab.ids at hn
    rw [List.map_cons, List.nodup_cons] at hn
    rcases List.mem_cons.1 hx with rfl | hx
    · rw [setT_out T _ x.1 (fun z hz e => hn.1 (List.mem_map.2 ⟨z, hz, e⟩)), hget_set_same _ (hl x (List.mem_cons_self ..))]
    · exact setT_in T _ hn.2 (fun z hz => by rw [List.length_set]; exact hl z (List.mem_cons_of_mem _ hz)) x hx
theorem setT_app (S T : Tab) (G : AHeap) : setT G (S ++ T) = setT (setT G S) T := List.foldl_append
theorem tab_one {T : Tab} : ∀ v ∈ T.cells, oneCell v = true := by
  intro v h
  obtain ⟨x, _, rfl⟩ := List.mem_map.1 h
  rfl
theorem TabW.appended {b : Nat} {G l : AHeap} {p : Option Addr} {o : AObj} {T : Tab} (h : TabW b G T) (hp : ∀ a, p = some a → ∀ x ∈ T, x.1 ≠ a.block) : TabW b (kill p (G ++ l) ++ [o]) T :=
  h.same fun x hx => by
    have hlt := h.r.lt hx
    rw [append_get2 (by rw [List.length_append]; omega) (fun a e => fun e' => hp a e x hx e'.symm), hget_append_lt hlt]
theorem TabW.low {b b' : Nat} {H : AHeap} {T : Tab} (h : TabW b H T) (hb : b' ≤ b) : TabW b' H T := ⟨h.1, fun x hx => ⟨Nat.le_trans hb (h.2 x hx).1, (h.2 x hx).2⟩⟩
section
variable {P : Program} {N : Nat} {t : Env} {H : AHeap} {d : Option Tmp} {ty : TypeId} {pos : String} {af : Array Edge} {g : Option (Nat × Bool)}
/-- a slice of slices written out -/
theorem s_buildTab {T E : TypeId} {len i : Nat} {ps : List (Nat × Operand)} {vs : List (Nat × Value)} {X : Tab} {z : Value} {H' : AHeap} (hT : P.underlying T = some (.slice E)) (hm : ∀ w, (sizeOf E).run P w = .ok 1 w) (hz : ∀ w, (zeroValue E).run P w = .ok z w) (hzc : z = .slice none 0 0)
    (hp : ps.map (fun p => (p.1, aEv t p.2)) = vs.map (fun p => (p.1, some p.2))) (hlen : len ≤ 16777216) (hcs : partsOf 1 vs ((List.replicate len [.slice none 0 0]).flatten) = some X.cells) (hl : X.length = len) (hidx : H.length = i) (hH : H ++ [AObj.row false X.cells] = H') :
    OpOk P N ⟨d, .buildSlice T len ps.toArray, ty, pos, af, g⟩ t H (.slice (some ⟨i, 0, none⟩) len len) H' := by
  subst hidx hH hzc
  exact m_buildSlice hp hT hm hz (by intro c hc; simp [Value.cells] at hc; subst hc; rfl) rfl Nat.one_pos (by omega) hcs (by rw [Tab.cells_len]; omega)
end
end Go.Proofs.YtfiilgnebmidbaaDoor.Am
