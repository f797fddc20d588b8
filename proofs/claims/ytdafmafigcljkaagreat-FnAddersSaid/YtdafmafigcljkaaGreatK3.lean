
/-
  The abstract machine, texts joined: Am10, Am11, Am12, Am13, Am14, Am15, Am16. No condition.
-/
import Derived.Test.YtdafmafigcljkaaGreatK2
import Derived.Carry
import Derived.OpenShut
import Derived.ChangeOld
import Derived.DataReads
import Derived.SizedLaws
import Derived.RowKit3
/-
  The entry: a call's arguments, read by their types, as values over an abstract memory of rows that are only read. No condition.
-/
namespace Go.Proofs.YtdafmafigcljkaaGreat.Am
open Go Go.RowKit Go.ChangeShapes Go.WideShapes
set_option linter.unusedVariables false
set_option linter.unusedSimpArgs false
def Seg (cs : List Value) (o m : Nat) : List Value := (cs.drop o).take m
def consec (P : Program) : Nat → List (Nat × TypeId) → Nat → Bool
  | o, [], total => o == total
  | o, (o', t) :: rest, total => o' == o && consec P (o + P.cellsOf t) rest total
def plainT (P : Program) : Nat → TypeId → Bool
  | 0, _ => false
  | n + 1, t => match P.underlying t with
    | some .bool | some (.int _) | some .string => P.cellsOf t == 1
    | some (.slice e) => P.cellsOf t == 1 && decide (0 < P.cellsOf e) && plainT P n e
    | some (.struct fs) => consec P 0 (fs.toList.map fun f => (f.offset, f.type)) (P.cellsOf t) && fs.toList.all fun f => plainT P n f.type
    | some (.array k e) => k * P.cellsOf e == P.cellsOf t && plainT P n e
    | _ => false
def aok (P : Program) (H : AHeap) : Nat → TypeId → List Value → Prop
  | 0, _, _ => False
  | n + 1, t, cs => match P.underlying t with
    | some .bool => ∃ b, cs = [.bool b]
    | some (.int k) => ∃ x, cs = [.int k x] ∧ (Lit.int k x).wf = true
    | some .string => ∃ s : ByteArray, cs = [.string s] ∧ s.size ≤ maxLen
    | some (.slice e) => ∃ i len cap cells, cs = [.slice (some ⟨i, 0, none⟩) len cap] ∧ len ≤ maxLen ∧ i < H.length ∧ hget H i = .row true cells ∧ cells.length = len * P.cellsOf e ∧
        ∀ j, j < len → aok P H n e (Seg cells (j * P.cellsOf e) (P.cellsOf e))
    | some (.struct fs) => cs.length = P.cellsOf t ∧ ∀ f ∈ fs.toList, aok P H n f.type (Seg cs f.offset (P.cellsOf f.type))
    | some (.array k e) => cs.length = P.cellsOf t ∧ ∀ j, j < k → aok P H n e (Seg cs (j * P.cellsOf e) (P.cellsOf e))
    | _ => False
theorem aok_more {P : Program} {H l : AHeap} : ∀ {n : Nat} {t : TypeId} {cs : List Value}, aok P H n t cs → aok P (H ++ l) n t cs := by
  intro n
  induction n with
  | zero => intro t cs h; exact h
  | succ n ih =>
    intro t cs h
    unfold aok at h ⊢
    split at h <;> try exact h
    · obtain ⟨i, len, cap, cells, h1, h2, h3, h4, h5, h6⟩ := h
      exact ⟨i, len, cap, cells, h1, h2, by rw [List.length_append]; omega, by rw [hget_append_lt h3]; exact h4, h5, fun j hj => ih (h6 j hj)⟩
    · exact ⟨h.1, fun f hf => ih (h.2 f hf)⟩
    · exact ⟨h.1, fun j hj => ih (h.2 j hj)⟩
def AllRo (H : AHeap) : Prop := ∀ i, i < H.length → ∃ cs, hget H i = .row true cs
theorem Sim.nil {W : World} (hB : BaseOk W) : Sim W (fun _ => none) [] W := ⟨fun _ _ h => (nomatch h), fun _ _ h => (nomatch h), fun _ _ _ _ _ h => (nomatch h), fun _ _ _ _ _ h => (nomatch h), ⟨Below.refl _ _, hB⟩⟩
theorem AllRo.push {H : AHeap} (h : AllRo H) (cs : List Value) : AllRo (H ++ [.row true cs]) := by
  intro i hi
  rcases Nat.lt_or_ge i H.length with h1 | h1
  · rw [hget_append_lt h1]; exact h i h1
  · rw [List.length_append, List.length_singleton] at hi
    obtain rfl : i = H.length := by omega
    exact ⟨cs, by rw [hget_append_ge (Nat.le_refl _), Nat.sub_self]; rfl⟩
theorem hget_last (H : AHeap) (o : AObj) : hget (H ++ [o]) H.length = o := by rw [hget_append_ge (Nat.le_refl _), Nat.sub_self]; rfl
theorem AllRo.notRow {H : AHeap} (h : AllRo H) (i : Nat) : (hget H i).isRow = false ∧ (hget H i).isMap = false := by
  rcases Nat.lt_or_ge i H.length with h1 | h1
  · obtain ⟨cs, e⟩ := h i h1; rw [e]; exact ⟨rfl, rfl⟩
  · rw [hget_ge h1]; exact ⟨rfl, rfl⟩
theorem Sim.pushEmpty {W : World} {φ : Phi} {H : AHeap} (hs : Sim W φ H W) (hr : AllRo H) (cs : List Value) : Sim W φ (H ++ [.row true cs]) W := by
  refine ⟨fun i L e => by rw [List.length_append]; have := hs.dom i L e; omega, fun i L e => ?_, fun i j L M _ _ _ h => ?_, fun i j L M _ _ _ h => ?_, hs.base⟩
  · rw [hget_append_lt (hs.dom i L e)]; exact hs.obj i L e
  · rw [((hr.push cs).notRow i).1] at h; cases h
  · rw [((hr.push cs).notRow i).2] at h; cases h
theorem Sim.pushRo {W : World} {φ : Phi} {H : AHeap} (hs : Sim W φ H W) (hr : AllRo H) {L : Loc} {cs : List Value} (hb : L.block < W.heap.size) (hf : cs.length ≤ L.ext)
    (hc : ∀ (j : Nat) c, cs[j]? = some c → ∃ c', W.cell? ⟨L.block, L.off + j, none⟩ = some c' ∧ V φ c c') : Sim W (fun i => if i = H.length then some L else φ i) (H ++ [.row true cs]) W := by
  have hm : ∀ i M, φ i = some M → (if i = H.length then some L else φ i) = some M := fun i M e => by
    rw [if_neg (by have := hs.dom i M e; omega)]; exact e
  refine ⟨fun i M e => ?_, fun i M e => ?_, fun i j L M _ _ _ h => ?_, fun i j L M _ _ _ h => ?_, hs.base⟩
  · rw [List.length_append, List.length_singleton]
    by_cases h : i = H.length
    · omega
    · rw [if_neg h] at e; have := hs.dom i M e; omega
  · by_cases h : i = H.length
    · subst h
      rw [if_pos rfl] at e
      obtain rfl := Option.some.inj e
      rw [hget_last]
      exact ⟨hf, fun j c e => by obtain ⟨c', h1, h2⟩ := hc j c e; exact ⟨c', h1, h2.mono hm⟩, fun _ => hb, fun h => (nomatch h), fun h => (nomatch h)⟩
    · rw [if_neg h] at e
      rw [hget_append_lt (hs.dom i M e)]
      have := hs.obj i M e
      obtain ⟨cs', e'⟩ := hr i (hs.dom i M e)
      rw [e'] at this ⊢
      exact ⟨this.fits, fun j c e => by obtain ⟨c', h1, h2⟩ := this.reads j c e; exact ⟨c', h1, h2.mono hm⟩, this.old, this.own, this.there⟩
  · rw [((hr.push cs).notRow i).1] at h; cases h
  · rw [((hr.push cs).notRow i).2] at h; cases h
structure Got (W : World) (φ : Phi) (H : AHeap) (φ' : Phi) (l : AHeap) : Prop where
  mono : ∀ i L, φ i = some L → φ' i = some L
  sim : Sim W φ' (H ++ l) W
  ro : AllRo (H ++ l)
variable {K : Type} {enc : TypeId × Value → K} {P : Program}
def One (enc : TypeId × Value → K) (P : Program) (W : World) (k : Nat) (t : TypeId) (cs : List Value) : Prop :=
  ∀ φ H, Sim W φ H W → AllRo H → ∃ φ' l acs, Got W φ H φ' l ∧ acs.length = cs.length ∧ (∀ (j : Nat) v v', acs[j]? = some v → cs[j]? = some v' → V φ' v v') ∧ aok P (H ++ l) k t acs
theorem seg_app {a b : List Value} {o m : Nat} (h : a.length ≤ o) : Seg (a ++ b) o m = Seg b (o - a.length) m := by
  unfold Seg; rw [List.drop_append_of_le_length' h]
 where
  List.drop_append_of_le_length' {a b : List Value} {o : Nat} (h : a.length ≤ o) : (a ++ b).drop o = b.drop (o - a.length) := by
    rw [List.drop_append]; rw [List.drop_of_length_le h]; rfl
theorem seg_first {a b : List Value} : Seg (a ++ b) 0 a.length = a := by unfold Seg; simp
theorem consec_le {P : Program} : ∀ {tiles : List (Nat × TypeId)} {o total : Nat}, consec P o tiles total = true → o ≤ total ∧ ∀ p ∈ tiles, o ≤ p.1 ∧ p.1 + P.cellsOf p.2 ≤ total := by
  intro tiles
  induction tiles with
  | nil => intro o total h; simp only [consec, beq_iff_eq] at h; exact ⟨by omega, fun p h => by cases h⟩
  | cons q rest ih =>
    intro o total h
    obtain ⟨o', t⟩ := q
    simp only [consec, Bool.and_eq_true, beq_iff_eq] at h
    obtain ⟨rfl, h⟩ := h
    obtain ⟨h1, h2⟩ := ih h
    refine ⟨by omega, fun p hp => ?_⟩
    rcases List.mem_cons.1 hp with rfl | hp
    · exact ⟨Nat.le_refl _, by omega⟩
    · have := h2 p hp; omega
theorem consec_rep {P : Program} {e : TypeId} : ∀ (k s : Nat), consec P (s * P.cellsOf e) ((List.range' s k).map fun i => (i * P.cellsOf e, e)) ((s + k) * P.cellsOf e) = true := by
  intro k
  induction k with
  | zero => intro s; simp [consec]
  | succ k ih =>
    intro s
    simp only [List.range'_succ, List.map_cons, consec, Bool.and_eq_true, beq_iff_eq, true_and]
    have := ih (s + 1)
    rw [show s * P.cellsOf e + P.cellsOf e = (s + 1) * P.cellsOf e by rw [Nat.add_mul, Nat.one_mul], show s + (k + 1) = s + 1 + k by omega]
    exact this
theorem ents {W : World} {k : Nat} {full : List Value} : ∀ (tiles : List (Nat × TypeId)) (o : Nat), consec P o tiles full.length = true → (∀ p ∈ tiles, One enc P W k p.2 (Seg full p.1 (P.cellsOf p.2))) →
    ∀ φ H, Sim W φ H W → AllRo H → ∃ φ' l acs, Got W φ H φ' l ∧ acs.length + o = full.length ∧ (∀ (j : Nat) v v', acs[j]? = some v → full[o + j]? = some v' → V φ' v v') ∧ ∀ p ∈ tiles, aok P (H ++ l) k p.2 (Seg acs (p.1 - o) (P.cellsOf p.2)) := by
  intro tiles
  induction tiles with
  | nil =>
    intro o hc _ φ H hs hr
    simp only [consec, beq_iff_eq] at hc
    exact ⟨φ, [], [], ⟨fun _ _ h => h, by rw [List.append_nil]; exact hs, by rw [List.append_nil]; exact hr⟩, by simp [hc], fun j v v' h => by simp at h, fun p h => by cases h⟩
  | cons q rest ih =>
    intro o hc hone φ H hs hr
    obtain ⟨o', t⟩ := q
    have hc0 := hc
    simp only [consec, Bool.and_eq_true, beq_iff_eq] at hc
    obtain ⟨rfl, hc⟩ := hc
    have hle := (consec_le hc0).2 (o', t) (List.mem_cons_self ..)
    obtain ⟨φ1, l1, a1, g1, n1, v1, k1⟩ := hone (o', t) (List.mem_cons_self ..) φ H hs hr
    obtain ⟨φ2, l2, a2, g2, n2, v2, k2⟩ := ih (o' + P.cellsOf t) hc (fun p hp => hone p (List.mem_cons_of_mem _ hp)) φ1 (H ++ l1) g1.sim g1.ro
    have hn1 : a1.length = P.cellsOf t := by
      rw [n1]; unfold Seg; simp only [List.length_take, List.length_drop]; omega
    refine ⟨φ2, l1 ++ l2, a1 ++ a2, ⟨fun i L h => g2.mono i L (g1.mono i L h), by rw [← List.append_assoc]; exact g2.sim, by rw [← List.append_assoc]; exact g2.ro⟩, by rw [List.length_append]; omega, fun j v v' e e' => ?_, fun p hp => ?_⟩
    · rcases Nat.lt_or_ge j a1.length with hj | hj
      · rw [List.getElem?_append_left hj] at e
        refine (v1 j v v' e ?_).mono g2.mono
        unfold Seg
        rw [List.getElem?_take, if_pos (by simpa using (by omega : j < P.cellsOf t)), List.getElem?_drop]; exact e'
      · rw [List.getElem?_append_right hj] at e
        exact v2 _ v v' e (by rw [← e']; congr 1; omega)
    · rw [← List.append_assoc]
      rcases List.mem_cons.1 hp with rfl | hp
      · have : Seg (a1 ++ a2) (o' - o') (P.cellsOf t) = a1 := by rw [Nat.sub_self, ← hn1]; exact seg_first
        show aok P _ k t (Seg (a1 ++ a2) (o' - o') (P.cellsOf t))
        rw [this]; exact aok_more k1
      · have h1 := ((consec_le hc).2 p hp).1
        rw [seg_app (by omega)]
        have := k2 p hp
        rw [show p.1 - (o' + P.cellsOf t) = p.1 - o' - a1.length by omega] at this
        exact this
theorem cells_of {w : World} {base : Nat} {a : Addr} {n : Nat} {cs : List Value} (h : w.cells? base a n = some cs) : cs.length = n ∧ ∀ i, i < n → w.cell? (a.add i) = cs[i]? := by
  unfold World.cells? at h
  split at h
  · exact ⟨by simpa using mapM_some_length h, fun i hi => mapM_some_get h i i (by simp [hi])⟩
  · cases h
theorem cell_spot {w : World} {a : Addr} {v : Value} (h : w.cell? a = some v) : a.spot = none ∧ a.block < w.heap.size := by
  unfold World.cell? at h
  split at h
  · rename_i c _ _ hb
    refine ⟨?_, ?_⟩
    · cases hs : a.spot with
      | none => rfl
      | some x => rw [hs] at h; simp at h
    · have := (Array.getElem?_eq_some_iff.1 hb).1; exact this
  · cases h
theorem ent {W : World} : ∀ (k : Nat) (t : TypeId) (fuel : Nat) (cs : List Value) (x : DataW K × List MemPlace), plainT P k t = true → DataW.trod enc P W 0 (fun _ => true) true fuel t cs = some x → One enc P W k t cs := by
  intro k
  induction k with
  | zero => intro t fuel cs x h; simp [plainT] at h
  | succ k ih =>
    intro t fuel cs x hp hx φ H hs hr
    have flat : (∀ v ∈ cs, Flat v) → aok P (H ++ []) (k + 1) t cs → ∃ φ' l acs, Got W φ H φ' l ∧ acs.length = cs.length ∧ (∀ (j : Nat) v v', acs[j]? = some v → cs[j]? = some v' → V φ' v v') ∧ aok P (H ++ l) (k + 1) t acs := fun hf ha =>
      ⟨φ, [], cs, ⟨fun _ _ h => h, by rw [List.append_nil]; exact hs, by rw [List.append_nil]; exact hr⟩, rfl, fun j v v' e e' => by rw [e] at e'; obtain rfl := Option.some.inj e'; exact V.flat (hf v (List.mem_of_getElem? e)), ha⟩
    unfold plainT at hp
    split at hp
    · rename_i hu
      obtain ⟨b, rfl, _⟩ := DataW.trod_bool hu hx
      exact flat (fun v h => by simp at h; subst h; exact .bool b) (by unfold aok; rw [hu]; exact ⟨b, rfl⟩)
    · rename_i kk hu
      obtain ⟨n, rfl, _, hw⟩ := DataW.trod_int hu hx
      exact flat (fun v h => by simp at h; subst h; exact .int _ n) (by unfold aok; rw [hu]; exact ⟨n, rfl, hw⟩)
    · rename_i hu
      obtain ⟨s, rfl, _, hw⟩ := DataW.trod_string hu hx
      exact flat (fun v h => by simp at h; subst h; exact .string s) (by unfold aok; rw [hu]; exact ⟨s, rfl, hw⟩)
    · rename_i e hu
      simp only [Bool.and_eq_true, decide_eq_true_eq, beq_iff_eq] at hp
      obtain ⟨⟨_, hm⟩, hpe⟩ := hp
      have empty : ∀ (a : Option Addr) (c' : Nat), cs = [.slice a 0 c'] → ∃ φ' l acs, Got W φ H φ' l ∧ acs.length = cs.length ∧ (∀ (j : Nat) v v', acs[j]? = some v → cs[j]? = some v' → V φ' v v') ∧ aok P (H ++ l) (k + 1) t acs := by
        rintro a c' rfl
        refine ⟨φ, [.row true []], [.slice (some ⟨H.length, 0, none⟩) 0 capE], ⟨fun _ _ h => h, hs.pushEmpty hr [], hr.push []⟩, rfl, fun j v v' e1 e2 => ?_, ?_⟩
        · cases j with
          | zero => simp at e1 e2; subst e1 e2; exact .empty _ _ _ _
          | succ j => simp at e1
        · unfold aok; rw [hu]
          exact ⟨H.length, 0, capE, [], rfl, by decide, by simp, hget_last _ _, by simp, fun j hj => absurd hj (Nat.not_lt_zero _)⟩
      rcases DataW.trod_slice hu hx with ⟨rfl, _⟩ | ⟨a, len, cap, elems, rest, n, _, rfl, _, hb, hlc, hcm, hel, hget, _, _⟩
      · exact empty none 0 rfl
      rcases Nat.eq_zero_or_pos len with rfl | hpos
      · exact empty (some a) cap rfl
      have hseg : ∀ i, i < len → ∃ cs', W.cells? 0 (a.add (i * P.cellsOf e)) (P.cellsOf e) = some cs' ∧ ∃ y, DataW.trod enc P W 0 (fun _ => true) true n e cs' = some y := by
        intro i hi
        have h1 := hget i hi
        rw [List.getElem?_eq_getElem (by omega)] at h1
        obtain ⟨cs', h2, h3⟩ := Option.bind_eq_some_iff.1 h1
        exact ⟨cs', h2, _, h3⟩
      obtain ⟨cs0, h00, _⟩ := hseg 0 hpos
      have hz := (cells_of h00).2 0 hm
      rw [List.getElem?_eq_getElem (by rw [(cells_of h00).1]; exact hm)] at hz
      obtain ⟨hspot, hblk⟩ := cell_spot hz
      rw [show (a.add (0 * P.cellsOf e)).add 0 = a by simp [Addr.add]] at hspot hblk
      obtain ⟨b, off, spot⟩ := a
      simp only at hspot hblk
      subst hspot
      have hfull : ∃ full : List Value, full.length = len * P.cellsOf e ∧ ∀ j, j < len * P.cellsOf e → W.cell? ⟨b, off + j, none⟩ = full[j]? := by
        refine ⟨(List.range (len * P.cellsOf e)).map fun j => (W.cell? ⟨b, off + j, none⟩).getD (.bool true), by simp, fun j hj => ?_⟩
        have hq : j / P.cellsOf e < len := Nat.div_lt_of_lt_mul (by rw [Nat.mul_comm]; exact hj)
        obtain ⟨cs', h1, _⟩ := hseg _ hq
        have h2 := (cells_of h1).2 (j % P.cellsOf e) (Nat.mod_lt _ hm)
        obtain ⟨v, hv⟩ : ∃ v, cs'[j % P.cellsOf e]? = some v := ⟨_, List.getElem?_eq_getElem (by rw [(cells_of h1).1]; exact Nat.mod_lt _ hm)⟩
        rw [hv, add_none, add_none, Nat.add_assoc, Nat.mul_comm, Nat.div_add_mod] at h2
        rw [List.getElem?_map, List.getElem?_range hj]
        simp [h2]
      obtain ⟨full, hfl, hfc⟩ := hfull
      have hone : ∀ p ∈ (List.range' 0 len).map (fun i => (i * P.cellsOf e, e)), One enc P W k p.2 (Seg full p.1 (P.cellsOf p.2)) := by
        intro p hp
        obtain ⟨i, hi, rfl⟩ := List.mem_map.1 hp
        have hi' : i < len := by simpa using hi
        obtain ⟨cs', h1, y, h2⟩ := hseg i hi'
        have : Seg full (i * P.cellsOf e) (P.cellsOf e) = cs' := by
          have hbound : i * P.cellsOf e + P.cellsOf e ≤ len * P.cellsOf e := by
            rw [← Nat.succ_mul]; exact Nat.mul_le_mul_right _ hi'
          apply List.ext_getElem?
          intro j
          unfold Seg
          rcases Nat.lt_or_ge j (P.cellsOf e) with hj | hj
          · rw [List.getElem?_take, if_pos hj, List.getElem?_drop, ← hfc _ (by omega), ← (cells_of h1).2 j hj, add_none, add_none, Nat.add_assoc]
          · rw [List.getElem?_eq_none (by simp; omega), List.getElem?_eq_none (by rw [(cells_of h1).1]; exact hj)]
        show One enc P W k e (Seg full (i * P.cellsOf e) (P.cellsOf e))
        rw [this]
        exact ih e n cs' y hpe h2
      have hcons : consec P 0 ((List.range' 0 len).map (fun i => (i * P.cellsOf e, e))) full.length = true := by
        have := consec_rep (P := P) (e := e) len 0
        rw [Nat.zero_mul, Nat.zero_add] at this
        rw [hfl]; exact this
      obtain ⟨φ1, l1, acs, g1, n1, v1, k1⟩ := ents (enc := enc) _ 0 hcons hone φ H hs hr
      rw [Nat.add_zero] at n1
      refine ⟨fun i => if i = (H ++ l1).length then some ⟨b, off, len * P.cellsOf e⟩ else φ1 i, l1 ++ [.row true acs], [.slice (some ⟨(H ++ l1).length, 0, none⟩) len cap], ⟨fun i L h => ?_, ?_, ?_⟩, rfl, fun j v v' e1 e2 => ?_, ?_⟩
      · have h1 := g1.mono i L h
        show (if i = (H ++ l1).length then _ else φ1 i) = some L
        rw [if_neg (by have := g1.sim.dom i L h1; omega)]; exact h1
      · rw [← List.append_assoc]
        refine g1.sim.pushRo g1.ro hblk (by show acs.length ≤ len * P.cellsOf e; omega) fun j c e1 => ?_
        have hj : j < len * P.cellsOf e := by have := (List.getElem?_eq_some_iff.1 e1).1; omega
        have h2 := hfc j hj
        rw [List.getElem?_eq_getElem (by omega)] at h2
        exact ⟨_, h2, v1 j c _ e1 (by rw [Nat.zero_add]; exact List.getElem?_eq_getElem (by omega))⟩
      · rw [← List.append_assoc]; exact g1.ro.push acs
      · cases j with
        | zero =>
          simp at e1 e2; subst e1 e2
          have hcap : cap < capU := Nat.lt_of_le_of_lt hcm (by decide)
          exact .slice _ 0 len cap ⟨b, off, len * P.cellsOf e⟩ cap (by simp) (fun _ => rfl) (fun m h => by omega) hlc
        | succ j => simp at e1
      · unfold aok; rw [hu]
        refine ⟨(H ++ l1).length, len, cap, acs, rfl, by omega, by simp, by rw [← List.append_assoc]; exact hget_last _ _, by omega, fun j hj => ?_⟩
        have := k1 (j * P.cellsOf e, e) (List.mem_map.2 ⟨j, by simpa using hj, rfl⟩)
        rw [← List.append_assoc]
        exact aok_more (by simpa using this)
    · rename_i fs hu
      simp only [Bool.and_eq_true, List.all_eq_true] at hp
      obtain ⟨xs, n, _, _, hl, hxs, hf⟩ := DataW.trod_struct hu hx
      obtain ⟨φ1, l1, acs, g1, n1, v1, k1⟩ := ents (enc := enc) (W := W) (k := k) (full := cs) _ 0 (by rw [hl]; exact hp.1) (fun p hp' => by
        obtain ⟨f, hf', rfl⟩ := List.mem_map.1 hp'
        obtain ⟨i, hi⟩ := List.getElem?_of_mem hf'
        have h1 := hf i f (by simpa using hi)
        have hi' : i < xs.length := by rw [hxs]; simpa using (List.getElem?_eq_some_iff.1 hi).1
        rw [List.getElem?_eq_getElem hi'] at h1
        exact ih f.type n _ _ (hp.2 f hf') h1) φ H hs hr
      refine ⟨φ1, l1, acs, g1, by omega, fun j v v' e1 e2 => v1 j v v' e1 (by rw [Nat.zero_add]; exact e2), ?_⟩
      unfold aok; rw [hu]
      exact ⟨by omega, fun f hf' => by simpa using k1 (f.offset, f.type) (List.mem_map.2 ⟨f, hf', rfl⟩)⟩
    · rename_i kk e hu
      simp only [Bool.and_eq_true, beq_iff_eq] at hp
      obtain ⟨xs, n, _, _, hl, hxs, hf⟩ := DataW.trod_array hu hx
      obtain ⟨φ1, l1, acs, g1, n1, v1, k1⟩ := ents (enc := enc) (W := W) (k := k) (full := cs) ((List.range' 0 kk).map fun i => (i * P.cellsOf e, e)) 0 (by
          have := consec_rep (P := P) (e := e) kk 0
          rw [Nat.zero_mul, Nat.zero_add, hp.1, ← hl] at this
          exact this) (fun p hp' => by
        obtain ⟨i, hi, rfl⟩ := List.mem_map.1 hp'
        have hi' : i < kk := by simpa using hi
        have h1 := hf i hi'
        rw [List.getElem?_eq_getElem (by omega)] at h1
        exact ih e n _ _ hp.2 h1) φ H hs hr
      refine ⟨φ1, l1, acs, g1, by omega, fun j v v' e1 e2 => v1 j v v' e1 (by rw [Nat.zero_add]; exact e2), ?_⟩
      unfold aok; rw [hu]
      exact ⟨by omega, fun j hj => by simpa using k1 (j * P.cellsOf e, e) (List.mem_map.2 ⟨j, by simpa using hj, rfl⟩)⟩
    · cases hp
end Go.Proofs.YtdafmafigcljkaaGreat.Am
/-
  The entry of a law: whatever the arguments, the call returns true and leaves memory as it was. No condition.
-/
namespace Go.Proofs.YtdafmafigcljkaaGreat.Am
open Go Go.RowKit Go.ChangeShapes Go.WideShapes
set_option linter.unusedVariables false
set_option linter.unusedSimpArgs false
variable {K : Type} {enc : TypeId × Value → K} {P : Program}
def argOk (P : Program) (H : AHeap) (k : Nat) (t : TypeId) (v : Value) : Prop :=
  (∃ acs, v = .agg acs.toArray ∧ aok P H k t acs ∧ ((∃ fs, P.underlying t = some (.struct fs)) ∨ ∃ n e, P.underlying t = some (.array n e))) ∨ (aok P H k t [v] ∧ (∀ fs, P.underlying t ≠ some (.struct fs)) ∧ ∀ n e, P.underlying t ≠ some (.array n e))
def argsOk (P : Program) (H : AHeap) (k : Nat) : List TypeId → List Value → Prop
  | [], [] => True
  | t :: ts, v :: vs => argOk P H k t v ∧ argsOk P H k ts vs
  | _, _ => False
theorem argOk_more {H l : AHeap} {k : Nat} {t : TypeId} {v : Value} (h : argOk P H k t v) : argOk P (H ++ l) k t v := by
  rcases h with ⟨acs, h1, h2, h3⟩ | ⟨h1, h2⟩
  · exact .inl ⟨acs, h1, aok_more h2, h3⟩
  · exact .inr ⟨aok_more h1, h2⟩
theorem entV {W : World} {k : Nat} {t : TypeId} {v : Value} {d : DataW K} {ps : List MemPlace} {b : Nat} (hp : plainT P k t = true) (hv : Value.okWide P W .any b t v) (h : DataW.Trod enc P W 0 (fun _ => true) true t v d ps) :
    ∀ φ H, Sim W φ H W → AllRo H → ∃ φ' l av, Got W φ H φ' l ∧ V φ' av v ∧ argOk P (H ++ l) k t av := by
  intro φ H hs hr
  obtain ⟨fuel, h⟩ := h
  obtain ⟨φ', l, acs, g, hn, hV, hk⟩ := ent k t fuel _ _ hp h φ H hs hr
  have agg : (∃ cs, v = .agg cs) → ((∃ fs, P.underlying t = some (.struct fs)) ∨ ∃ n e, P.underlying t = some (.array n e)) → ∃ φ' l av, Got W φ H φ' l ∧ V φ' av v ∧ argOk P (H ++ l) k t av := by
    rintro ⟨cs, rfl⟩ ht
    have hn' : acs.length = cs.size := by simpa [Value.cells] using hn
    exact ⟨φ', l, .agg acs.toArray, g, .agg _ _ (by simpa using hn') (fun i u u' e e' => hV i u u' (by simpa using e) (by simpa [Value.cells] using e')), .inl ⟨acs, rfl, hk, ht⟩⟩
  have one : (∀ cs, v ≠ .agg cs) → (∀ fs, P.underlying t ≠ some (.struct fs)) → (∀ n e, P.underlying t ≠ some (.array n e)) → ∃ φ' l av, Got W φ H φ' l ∧ V φ' av v ∧ argOk P (H ++ l) k t av := by
    intro hv h1 h2
    have hc : v.cells.toList = [v] := by
      cases v <;> first | rfl | exact absurd rfl (hv _)
    rw [hc] at hn hV
    match acs, hn with
    | [a], _ => exact ⟨φ', l, a, g, hV 0 a v rfl rfl, .inr ⟨hk, h1, h2⟩⟩
  cases k with
  | zero => simp [plainT] at hp
  | succ k =>
    unfold plainT at hp
    split at hp <;> rename_i hu <;> try (cases hp; done)
    · obtain ⟨b, rfl⟩ := okWide_bool hu hv
      exact one (fun _ h => nomatch h) (fun _ h => by rw [hu] at h; cases h) (fun _ _ h => by rw [hu] at h; cases h)
    · obtain ⟨b, rfl⟩ := okWide_int hu hv
      exact one (fun _ h => nomatch h) (fun _ h => by rw [hu] at h; cases h) (fun _ _ h => by rw [hu] at h; cases h)
    · obtain ⟨b, rfl⟩ := okWide_string hu hv
      exact one (fun _ h => nomatch h) (fun _ h => by rw [hu] at h; cases h) (fun _ _ h => by rw [hu] at h; cases h)
    · obtain ⟨_, _, _, rfl⟩ := okWide_slice hu hv
      exact one (fun _ h => nomatch h) (fun _ h => by rw [hu] at h; cases h) (fun _ _ h => by rw [hu] at h; cases h)
    · obtain ⟨cs, rfl, _⟩ := okWide_struct hu hv
      exact agg ⟨_, rfl⟩ (.inl ⟨_, hu⟩)
    · unfold Value.okWide at hv
      rw [hu] at hv
      obtain ⟨cs, rfl, _⟩ := hv
      exact agg ⟨_, rfl⟩ (.inr ⟨_, _, hu⟩)
theorem entAll {W : World} {k : Nat} {b : Nat} : ∀ (ts : List TypeId) (vs : List Value) (ds : List (DataW K)) (ps : List MemPlace), ts.all (plainT P k) = true → (∀ (j : Nat) t v, ts[j]? = some t → vs[j]? = some v → Value.okWide P W .any b t v) →
    DataW.TrodAll enc P W 0 (fun _ => true) true ts vs ds ps → ∀ φ H, Sim W φ H W → AllRo H → ∃ φ' l avs, Got W φ H φ' l ∧ avs.length = vs.length ∧ (∀ (j : Nat) a v, avs[j]? = some a → vs[j]? = some v → V φ' a v) ∧ argsOk P (H ++ l) k ts avs := by
  intro ts
  induction ts with
  | nil =>
    intro vs ds ps _ _ h φ H hs hr
    obtain ⟨rfl, rfl, rfl⟩ := trodAll_none' h
    exact ⟨φ, [], [], ⟨fun _ _ h => h, by rw [List.append_nil]; exact hs, by rw [List.append_nil]; exact hr⟩, rfl, fun j a v h => by simp at h, trivial⟩
  | cons t ts ih =>
    intro vs ds ps hp hv h φ H hs hr
    obtain ⟨v, vs, d, ds, p, q, rfl, rfl, rfl, h1, h2⟩ := trodAll_cons h
    simp only [List.all_cons, Bool.and_eq_true] at hp
    obtain ⟨φ1, l1, a1, g1, v1, k1⟩ := entV hp.1 (hv 0 t v rfl rfl) h1 φ H hs hr
    obtain ⟨φ2, l2, as1, g2, n2, v2, k2⟩ := ih vs ds q hp.2 (fun j t' v' e e' => hv (j + 1) t' v' (by simpa using e) (by simpa using e')) h2 φ1 (H ++ l1) g1.sim g1.ro
    refine ⟨φ2, l1 ++ l2, a1 :: as1, ⟨fun i L h => g2.mono i L (g1.mono i L h), by rw [← List.append_assoc]; exact g2.sim, by rw [← List.append_assoc]; exact g2.ro⟩, by simp [n2], fun j a v e e' => ?_, ?_⟩
    · cases j with
      | zero => simp at e e'; subst e e'; exact v1.mono g2.mono
      | succ j => exact v2 j a v (by simpa using e) (by simpa using e')
    · rw [← List.append_assoc]; exact ⟨argOk_more k1, k2⟩
 where
  trodAll_none' {W : World} {vs : List Value} {ds : List (DataW K)} {ps : List MemPlace} (h : DataW.TrodAll enc P W 0 (fun _ => true) true [] vs ds ps) : vs = [] ∧ ds = [] ∧ ps = [] := by
    cases vs <;> cases ds <;> simp [DataW.TrodAll] at h
    exact ⟨rfl, rfl, h⟩
theorem trodAll_below {W W' : World} (hl : laidOutB P = true) (hb : Below W.heap.size W W') : ∀ (ts : List TypeId) (vs : List Value) (ds : List (DataW K)) (ps : List MemPlace), (∀ t ∈ ts, P.readableRec t = true ∧ t < P.types.size) →
    DataW.TrodAll enc P W 0 (fun _ => true) true ts vs ds ps → (∀ x ∈ ps, x.block < W.heap.size) → DataW.TrodAll enc P W' 0 (fun b => decide (b < W.heap.size)) true ts vs ds ps := by
  intro ts
  induction ts with
  | nil => intro vs ds ps _ h _; cases vs <;> cases ds <;> simp [DataW.TrodAll] at h ⊢; exact h
  | cons t ts ih =>
    intro vs ds ps hr h hlt
    obtain ⟨v, vs, d, ds, p, q, rfl, rfl, rfl, h1, h2⟩ := trodAll_cons h
    exact ⟨p, q, Below.trod hl (hr t (List.mem_cons_self ..)).1 (hr t (List.mem_cons_self ..)).2 h1 hb (fun x hx => hlt x (List.mem_append_left _ hx)),
      ih vs ds q (fun t' h' => hr t' (List.mem_cons_of_mem _ h')) h2 (fun x hx => hlt x (List.mem_append_right _ hx)), rfl⟩
theorem trodAll_len {W : World} : ∀ {ts : List TypeId} {vs : List Value} {ds : List (DataW K)} {ps : List MemPlace}, DataW.TrodAll enc P W 0 (fun _ => true) true ts vs ds ps → ds.length = ts.length := by
  intro ts
  induction ts with
  | nil => intro vs ds ps h; cases vs <;> cases ds <;> simp_all [DataW.TrodAll]
  | cons t ts ih =>
    intro vs ds ps h
    obtain ⟨v, vs, d, ds, p, q, rfl, rfl, rfl, h1, h2⟩ := trodAll_cons h
    simp [ih h2]
theorem law_post {f : FuncId} {fn : Func} {s : ChangeSpec} {W : World} {base k : Nat} {args : Array Value} {ds gs : List (DataW K)} {before : List MemPlace} {tb : TypeId}
    (hB : BaseOk W) (hl : laidOutB P = true) (hp : fn.params.toList.all (fun t => plainT P k t && P.readableRec t && decide (t < P.types.size)) = true) (hres : fn.resultTypes.toList = [tb]) (hb : P.underlying tb = some .bool) (hvars : s.vars = [])
    (hspec : ∀ (K : Type) (ds : List (DataW K)), ds.length = fn.params.toList.length → (s.fn K ds).results = [.lit (.bool true)] ∧ (s.fn K ds).args = ds ∧ (s.fn K ds).vars = [])
    (hcall : ∀ H avs, AllRo H → argsOk P H k fn.params.toList avs → ∃ H', ACall P f avs H (.bool true) H')
    (hval : ∀ (j : Nat) t v, fn.params[j]? = some t → args[j]? = some v → Value.okWide P W .any base t v) (hW : DataW.Whole enc P fn.params.toList s.vars false W args.toList ds gs before) :
    Calls P f args W fun e W' => ∃ v, e = .returned v ∧ s.post enc P fn false true false false W args v W' := by
  have hW' := hW
  obtain ⟨p, q, hA, hV, rfl, hfz, hnd⟩ := hW
  rw [hvars] at hV
  obtain ⟨rfl, rfl⟩ := trodVars_none hV
  simp only [List.all_eq_true, Bool.and_eq_true, decide_eq_true_eq] at hp
  obtain ⟨φ, l, avs, g, hn, hv, hk⟩ := entAll fn.params.toList args.toList ds p (by rw [List.all_eq_true]; exact fun t ht => (hp t ht).1.1) (fun j t v e e' => hval j t v (by simpa using e) (by simpa using e')) hA _ [] (Sim.nil hB) (fun i h => absurd h (Nat.not_lt_zero _))
  rw [List.nil_append] at hk
  have gs' := g.sim
  have gr := g.ro
  rw [List.nil_append] at gs' gr
  obtain ⟨H', hc⟩ := hcall l avs gr hk
  refine (hc W φ W args gs' ⟨by simpa using hn.symm, fun j a v e e' => hv j a v e (by simpa using e')⟩).mono fun e W' h => ?_
  obtain ⟨v', φ', rfl, hs', hv', _⟩ := h
  obtain rfl := V.of_flat (.bool true) hv'
  have hlen := trodAll_len hA
  obtain ⟨e1, e2, e3⟩ := hspec K (ds ++ []) (by simpa using hlen)
  refine ⟨_, rfl, ds, [], p ++ [], [], p, [], hW', ?_, ?_, ?_, hs'.base.below.frame _, fun h => by cases h⟩
  · rw [e1, hres]
    have : (Value.bool true).resultList fn.resultTypes.size = [.bool true] := by
      have : fn.resultTypes.size = 1 := by rw [← Array.length_toList, hres]; rfl
      rw [this]; rfl
    rw [this]
    exact trodAll_mk1 (shut_bool hb true)
  · rw [e2, List.append_nil]
    exact trodAll_below hl hs'.base.below _ _ _ _ (fun t ht => ⟨(hp t ht).1.2, (hp t ht).2⟩) hA (fun x hx => hW'.lt x (List.mem_append_left _ hx))
  · rw [e3, hvars]; rfl
end Go.Proofs.YtdafmafigcljkaaGreat.Am
/-
  Arguments opened by their types. No condition.
-/
namespace Go.Proofs.YtdafmafigcljkaaGreat.Am
open Go Go.RowKit Go.ChangeShapes Go.WideShapes
set_option linter.unusedVariables false
set_option linter.unusedSimpArgs false
variable {P : Program} {H : AHeap} {k : Nat}
theorem arg_slice {t e : TypeId} {v : Value} (ht : P.underlying t = some (.slice e)) (h : argOk P H k t v) : aok P H k t [v] := by
  rcases h with ⟨acs, _, _, ⟨fs, h⟩ | ⟨n, e, h⟩⟩ | ⟨h, _⟩
  · rw [ht] at h; cases h
  · rw [ht] at h; cases h
  · exact h
theorem args_nil {avs : List Value} (h : argsOk P H k [] avs) : avs = [] := by cases avs with | nil => rfl | cons => exact absurd h id
theorem args_cons {t : TypeId} {ts : List TypeId} {avs : List Value} (h : argsOk P H k (t :: ts) avs) : ∃ v vs, avs = v :: vs ∧ argOk P H k t v ∧ argsOk P H k ts vs := by
  cases avs with | nil => exact absurd h id | cons v vs => exact ⟨v, vs, rfl, h.1, h.2⟩
end Go.Proofs.YtdafmafigcljkaaGreat.Am
/-
  What a call made and hands out, renumbered; arrays of arrays of ints. No condition.
-/
namespace Go.Proofs.YtdafmafigcljkaaGreat.Am
open Go Go.RowKit
set_option linter.unusedVariables false
set_option linter.unusedSimpArgs false
def All (m : Nat) (l : List (List Int)) : Prop := ∀ r ∈ l, r.length = m
def rw_ (l : List (List Int)) (i : Nat) : List Int := l.getD i []
end Go.Proofs.YtdafmafigcljkaaGreat.Am
/-
  Rules in the shape in which a program prints them: slices made, arrays in rows. No condition.
-/
namespace Go.Proofs.YtdafmafigcljkaaGreat.Am
open Go Go.RowKit
set_option linter.unusedVariables false
set_option linter.unusedSimpArgs false
theorem flatten_single : ∀ (c : Nat) (x : Int), (List.replicate c [x]).flatten = List.replicate c x
  | 0, _ => rfl
  | c + 1, x => by rw [List.replicate_succ, List.replicate_succ, List.flatten_cons, flatten_single c x]; rfl
theorem ints_flatten : ∀ (l : List (List Int)), (l.map ints).flatten = ints l.flatten
  | [] => rfl
  | r :: l => by rw [List.map_cons, List.flatten_cons, ints_flatten l, List.flatten_cons]; simp [ints]
section
variable {P : Program} {N : Nat} {t : Env} {H : AHeap} {d : Option Tmp} {ty : TypeId} {pos : String} {af : Array Edge} {g : Option (Nat × Bool)}
theorem make_cells {c : Nat} {r : List Int} : ((List.replicate c (ints r)).flatten) = ints (List.replicate c r).flatten := by
  rw [← ints_flatten, List.map_replicate]
end
theorem row_lt {H : AHeap} {i : Nat} {ro : Bool} {cs : List Value} (h : hget H i = .row ro cs) : i < H.length := by
  rcases Nat.lt_or_ge i H.length with h' | h'
  · exact h'
  · rw [hget_ge h'] at h; cases h
theorem bel_nil {n : Nat} : ∀ v ∈ ([] : List Value), Bel n v := fun v h => by cases h
theorem bel_cons {n : Nat} {a : Value} {l : List Value} (h : Bel n a) (k : ∀ v ∈ l, Bel n v) : ∀ v ∈ a :: l, Bel n v := by
  intro v hv
  rcases List.mem_cons.1 hv with rfl | hv
  · exact h
  · exact k v hv
def Kd.isRA : Kd → Bool
  | .read _ | .alloc _ => true
  | _ => false
section
variable {P : Program} {N : Nat} {l₀ : List Oper} {t₀ : Env} {H₀ : AHeap} {Q : Exit → Env → AHeap → Prop} {l : List Oper} {t : Env} {H : AHeap} {acc : List Ev} {d : Nat} {op : Op} {ty : TypeId} {pos : String} {af : Array Edge} {v : Value}
theorem DTr.aI {cells : List Value} {i : Nat} {H' : AHeap} (hd : Nat.blt d N = true) (hs : noSel op = true) (hi : H.length = i) (hH : H ++ [AObj.row false cells] = H') (h : AOk P N ⟨some d, op, ty, pos, af, none⟩ (restr (Oper.looksAt l₀.toArray ⟨some d, op, ty, pos, af, none⟩) t) cells i v)
    (k : DTr P N l₀ t₀ H₀ Q l ((d, v) :: t) H' (acc ++ [⟨.alloc cells, v, H, H'⟩])) : DTr P N l₀ t₀ H₀ Q (⟨some d, op, ty, pos, af, none⟩ :: l) t H acc := by
  subst hi hH; exact DTr.a hd hs h k
end
end Go.Proofs.YtdafmafigcljkaaGreat.Am
/-
  Rules in the shape in which a program prints them: append, slices written out. No condition.
-/
namespace Go.Proofs.YtdafmafigcljkaaGreat.Am
open Go Go.RowKit
set_option linter.unusedVariables false
set_option linter.unusedSimpArgs false
def Buf (b : Nat) (H : AHeap) (p : Option Addr) (n c m : Nat) (us : List Value) : Prop :=
  us.length = n * m ∧ ((p = none ∧ n = 0 ∧ c = 0) ∨ ∃ i, p = some ⟨i, 0, none⟩ ∧ b ≤ i ∧ hget H i = .row false us ∧ (c = capU + m ∨ (c = n ∧ c < capU)))
def kill (p : Option Addr) (H : AHeap) : AHeap := match p with | none => H | some a => H.set a.block .dead
theorem kill_length (p : Option Addr) (H : AHeap) : (kill p H).length = H.length := by cases p <;> simp [kill]
section
variable {P : Program} {N : Nat} {t : Env} {H : AHeap} {d : Option Tmp} {ty : TypeId} {pos : String} {af : Array Edge} {g : Option (Nat × Bool)}
theorem OpOk.killed {o : Oper} {v : Value} {H' : AHeap} (i : Nat) (h : OpOk P N o t H v H') : OpOk P N o t H v (H'.set i .dead) := by
  intro W φ w a hs he
  refine (h W φ w a hs he).mono fun v' w' => ?_
  rintro ⟨φ', k1, k2, k3⟩
  have := kill_ok i k1
  exact ⟨φ', this.1, k2, k3.trans this.2⟩
theorem s_buildInts {T E : TypeId} {len i : Nat} {ps : List (Nat × Operand)} {vs : List (Nat × Value)} {xs : List Int} {z : Value} {H' : AHeap} (hT : P.underlying T = some (.slice E)) (hm : ∀ w, (sizeOf E).run P w = .ok 1 w) (hz : ∀ w, (zeroValue E).run P w = .ok z w) (hzc : z.cells.toList = ints [0])
    (hp : ps.map (fun p => (p.1, aEv t p.2)) = vs.map (fun p => (p.1, some p.2))) (hlen : len ≤ 16777216) (hcs : partsOf 1 vs (ints (List.replicate len 0)) = some (ints xs)) (hl : xs.length = len) (hidx : H.length = i) (hH : H ++ [AObj.row false (ints xs)] = H') :
    OpOk P N ⟨d, .buildSlice T len ps.toArray, ty, pos, af, g⟩ t H (.slice (some ⟨i, 0, none⟩) len len) H' := by
  subst hidx hH
  refine m_buildSlice hp hT hm hz (by rw [hzc]; exact ints_flat) (by rw [← Array.length_toList, hzc]; rfl) Nat.one_pos (by omega) ?_ (by rw [ints_length]; omega)
  rw [hzc, make_cells, flatten_single]; exact hcs
end
theorem ints_app (a b : List Int) : ints a ++ ints b = ints (a ++ b) := by simp [ints]
theorem append_len {H : AHeap} {p : Option Addr} {o : AObj} : (kill p H ++ [o]).length = H.length + 1 := by rw [List.length_append, kill_length]; rfl
section
variable {P : Program} {N : Nat} {t : Env} {H : AHeap} {d : Option Tmp} {ty : TypeId} {pos : String} {af : Array Edge} {g : Option (Nat × Bool)}
theorem a_buildInts {T E : TypeId} {len i : Nat} {ps : List (Nat × Operand)} {vs : List (Nat × Value)} {xs : List Int} {z : Value} (hT : P.underlying T = some (.slice E)) (hm : ∀ w, (sizeOf E).run P w = .ok 1 w) (hz : ∀ w, (zeroValue E).run P w = .ok z w) (hzc : z.cells.toList = ints [0])
    (hp : ps.map (fun p => (p.1, aEv t p.2)) = vs.map (fun p => (p.1, some p.2))) (hlen : len ≤ 16777216) (hcs : partsOf 1 vs (ints (List.replicate len 0)) = some (ints xs)) (hl : xs.length = len) :
    AOk P N ⟨d, .buildSlice T len ps.toArray, ty, pos, af, g⟩ t (ints xs) i (.slice (some ⟨i, 0, none⟩) len len) := by
  refine a_buildSlice hp hT hm hz (by rw [hzc]; exact ints_flat) (by rw [← Array.length_toList, hzc]; rfl) Nat.one_pos (by omega) ?_ (by rw [ints_length]; omega)
  rw [hzc, make_cells, flatten_single]; exact hcs
theorem s_indexP {T : TypeId} {x y : Operand} {E : TypeId} {m q : Nat} {k : IntKind} {n : Int} {i o len c : Nat} {p : Option Addr} (hT : P.underlying T = some (.slice E)) (hm : ∀ w, (sizeOf E).run P w = .ok m w) (hx : aEv t x = some (.slice p len c)) (hp : p = some ⟨i, o, none⟩) (hy : aEv t y = some (.int k n))
    (h0 : 0 ≤ n) (h1 : n < len) (hq : o + n.toNat * m = q) : PureOk P N ⟨d, .indexAddr T x y, ty, pos, af, g⟩ t (.pointer (some ⟨i, q, none⟩)) := by subst hp; exact s_indexSl hT hm hx hy h0 h1 hq
end
end Go.Proofs.YtdafmafigcljkaaGreat.Am
/-
  Tables: a slice of slices of ints, by the list of its rows (number, room, ints). No condition.
-/
namespace Go.Proofs.YtdafmafigcljkaaGreat.Am
open Go Go.RowKit
set_option linter.unusedVariables false
set_option linter.unusedSimpArgs false
section
variable {P : Program} {N : Nat} {t : Env} {H : AHeap} {d : Option Tmp} {ty : TypeId} {pos : String} {af : Array Edge} {g : Option (Nat × Bool)}
end
end Go.Proofs.YtdafmafigcljkaaGreat.Am
