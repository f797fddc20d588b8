/-
  An abstract machine over this model's programs, first part: abstract memory, its relation to a world, and what a step keeps. No condition.
-/
import Derived.WalkKit
import Derived.ProofKit
import Derived.MapKept
import Derived.Orders
import Derived.Below
namespace Go.Proofs.Ytocaepkkaihiiaa.Am
open Go Go.RowKit

/-- Abstract memory: a list of objects; a block's number is its place. -/
inductive AObj where
  | dead
  | row (ro : Bool) (cells : List Value)
  | map (es : List (Value × Value))

abbrev AHeap := List AObj
def hget (H : AHeap) (i : Nat) : AObj := H.getD i .dead

/-- Where an abstract block lies: the world's block, its first cell, how many cells are its own. -/
structure Loc where
  block : Nat
  off : Nat
  ext : Nat

abbrev Phi := Nat → Option Loc

/-- The capacity of what 'append' made is not known: 'capU + m', m the cells of an element. -/
def capU : Nat := 18446744073709551616
/-- The capacity of a slice without elements of which nothing more is known. -/
def capE : Nat := capU + capU

/-- An abstract value, and a value of the world. -/
inductive V (φ : Phi) : Value → Value → Prop where
  | bool (b : Bool) : V φ (.bool b) (.bool b)
  | int (k : IntKind) (n : Int) : V φ (.int k n) (.int k n)
  | string (s : ByteArray) : V φ (.string s) (.string s)
  | nilPtr : V φ (.pointer none) (.pointer none)
  | ptr (i o : Nat) (L : Loc) (h : φ i = some L) : V φ (.pointer (some ⟨i, o, none⟩)) (.pointer (some ⟨L.block, L.off + o, none⟩))
  | nilSlice : V φ (.slice none 0 0) (.slice none 0 0)
  | slice (i o n c : Nat) (L : Loc) (c' : Nat) (h : φ i = some L) (hc : c < capU → c' = c) (hu : ∀ m, c = capU + m → o + c' * m ≤ L.ext) (hn : n ≤ c') :
      V φ (.slice (some ⟨i, o, none⟩) n c) (.slice (some ⟨L.block, L.off + o, none⟩) n c')
  | empty (i o : Nat) (a : Option Addr) (c' : Nat) : V φ (.slice (some ⟨i, o, none⟩) 0 capE) (.slice a 0 c')
  | nilMap : V φ (.map none) (.map none)
  | map (r : Nat) (L : Loc) (h : φ r = some L) : V φ (.map (some r)) (.map (some L.block))
  | nilFunc : V φ .nilFunc .nilFunc
  | nilIface : V φ .nilIface .nilIface
  | iface (t : TypeId) (v v' : Value) (h : V φ v v') : V φ (.iface t v) (.iface t v')
  | func (fn : Fn) (fs fs' cs cs' : Array Value) (h1 : fs.size = fs'.size) (h2 : cs.size = cs'.size)
      (hf : ∀ (i : Nat) v v', fs[i]? = some v → fs'[i]? = some v' → V φ v v') (hc : ∀ (i : Nat) v v', cs[i]? = some v → cs'[i]? = some v' → V φ v v') :
      V φ (.func fn fs cs) (.func fn fs' cs')
  | agg (cs cs' : Array Value) (h : cs.size = cs'.size) (hc : ∀ (i : Nat) v v', cs[i]? = some v → cs'[i]? = some v' → V φ v v') : V φ (.agg cs) (.agg cs')
  | tuple (cs cs' : Array Value) (h : cs.size = cs'.size) (hc : ∀ (i : Nat) v v', cs[i]? = some v → cs'[i]? = some v' → V φ v v') : V φ (.tuple cs) (.tuple cs')

theorem V.mono {φ φ' : Phi} (hm : ∀ i L, φ i = some L → φ' i = some L) {v v' : Value} (h : V φ v v') : V φ' v v' := by
  induction h with
  | bool b => exact .bool b
  | int k n => exact .int k n
  | string s => exact .string s
  | nilPtr => exact .nilPtr
  | ptr i o L h => exact .ptr i o L (hm _ _ h)
  | nilSlice => exact .nilSlice
  | slice i o n c L c' h hc hu hn => exact .slice i o n c L c' (hm _ _ h) hc hu hn
  | empty i o a c' => exact .empty i o a c'
  | nilMap => exact .nilMap
  | map r L h => exact .map r L (hm _ _ h)
  | nilFunc => exact .nilFunc
  | nilIface => exact .nilIface
  | iface t v v' _ ih => exact .iface t v v' ih
  | func fn fs fs' cs cs' h1 h2 _ _ ihf ihc => exact .func fn fs fs' cs cs' h1 h2 ihf ihc
  | agg cs cs' h _ ih => exact .agg cs cs' h ih
  | tuple cs cs' h _ ih => exact .tuple cs cs' h ih

/-- A value that speaks of no memory. -/
inductive Flat : Value → Prop where
  | bool (b : Bool) : Flat (.bool b)
  | int (k : IntKind) (n : Int) : Flat (.int k n)
  | string (s : ByteArray) : Flat (.string s)
  | nilPtr : Flat (.pointer none)
  | nilSlice : Flat (.slice none 0 0)
  | nilMap : Flat (.map none)
  | nilFunc : Flat .nilFunc
  | nilIface : Flat .nilIface
  | fn (f : Fn) : Flat (.func f #[] #[])
  | agg (cs : Array Value) (h : ∀ (i : Nat) v, cs[i]? = some v → Flat v) : Flat (.agg cs)
  | tuple (cs : Array Value) (h : ∀ (i : Nat) v, cs[i]? = some v → Flat v) : Flat (.tuple cs)

theorem V.flat {φ : Phi} {v : Value} (h : Flat v) : V φ v v := by
  induction h with
  | bool b => exact .bool b
  | int k n => exact .int k n
  | string s => exact .string s
  | nilPtr => exact .nilPtr
  | nilSlice => exact .nilSlice
  | nilMap => exact .nilMap
  | nilFunc => exact .nilFunc
  | nilIface => exact .nilIface
  | fn f => exact .func f _ _ _ _ rfl rfl (fun i v v' h => by simp at h) (fun i v v' h => by simp at h)
  | agg cs h ih => exact .agg _ _ rfl fun i v v' h1 h2 => by rw [h1] at h2; obtain rfl := Option.some.inj h2; exact ih i v h1
  | tuple cs h ih => exact .tuple _ _ rfl fun i v v' h1 h2 => by rw [h1] at h2; obtain rfl := Option.some.inj h2; exact ih i v h1

/-- A flat value has but itself. -/
theorem V.of_flat {φ : Phi} {v v' : Value} (hf : Flat v) (h : V φ v v') : v' = v := by
  induction hf generalizing v' with
  | fn f =>
    cases h with
    | func _ _ fs' _ cs' h1 h2 _ _ =>
      obtain rfl : fs' = #[] := Array.eq_empty_of_size_eq_zero h1.symm
      obtain rfl : cs' = #[] := Array.eq_empty_of_size_eq_zero h2.symm
      rfl
  | agg cs _ ih =>
    cases h with
    | agg _ cs' h hc =>
      congr 1
      apply Array.ext_getElem?
      intro i
      cases e : cs[i]? with
      | none => rw [Array.getElem?_eq_none_iff] at e ⊢; omega
      | some u =>
        have hi : i < cs'.size := by have := (Array.getElem?_eq_some_iff.1 e).1; omega
        have e' : cs'[i]? = some cs'[i] := Array.getElem?_eq_getElem hi
        rw [e', ih i u e (hc i u _ e e')]
  | tuple cs _ ih =>
    cases h with
    | tuple _ cs' h hc =>
      congr 1
      apply Array.ext_getElem?
      intro i
      cases e : cs[i]? with
      | none => rw [Array.getElem?_eq_none_iff] at e ⊢; omega
      | some u =>
        have hi : i < cs'.size := by have := (Array.getElem?_eq_some_iff.1 e).1; omega
        have e' : cs'[i]? = some cs'[i] := Array.getElem?_eq_getElem hi
        rw [e', ih i u e (hc i u _ e e')]
  | _ => cases h <;> rfl

/-- one cell's worth -/
def oneCell : Value → Bool
  | .agg _ | .tuple _ => false
  | _ => true
theorem V.oneCell {φ : Phi} {v v' : Value} (h : V φ v v') : Am.oneCell v' = Am.oneCell v := by cases h <;> rfl
theorem oneCell_eq (v : Value) : v.oneCell' = oneCell v := by cases v <;> rfl

/-- What an abstract object asks of the world. 'B': the blocks that were there at the beginning. -/
structure RowOk (B : Nat) (φ : Phi) (L : Loc) (ro : Bool) (cells : List Value) (w : World) : Prop where
  fits : cells.length ≤ L.ext
  reads : ∀ (j : Nat) c, cells[j]? = some c → ∃ c', w.cell? ⟨L.block, L.off + j, none⟩ = some c' ∧ V φ c c'
  old : ro = true → L.block < B
  own : ro = false → B ≤ L.block ∧ L.block < w.heap.size
  there : ro = false → ∀ j, j < L.ext → (∃ u, w.cell? ⟨L.block, L.off + j, none⟩ = some u) ∧ w.frozen? ⟨L.block, L.off + j, none⟩ = false

/-- a map's entries: their times are their places -/
def mkE (es : List (Value × Value)) : Array MapEntry := (es.mapIdx fun i e => { key := e.1, val := e.2, born := i }).toArray
structure MapOk (B : Nat) (L : Loc) (es : List (Value × Value)) (w : World) : Prop where
  off : L.off = 0
  ext : L.ext = 1
  own : B ≤ L.block ∧ L.block < w.heap.size
  flat : ∀ e ∈ es, Flat e.1 ∧ Flat e.2
  holds : w.heap[L.block]? = some (.map (mkE es) es.length)

def ObjOk (B : Nat) (φ : Phi) (L : Loc) (o : AObj) (w : World) : Prop :=
  match o with
  | .dead => True
  | .row ro cells => RowOk B φ L ro cells w
  | .map es => MapOk B L es w

def AObj.isMap : AObj → Bool
  | .map _ => true
  | _ => false
def AObj.isRow : AObj → Bool
  | .row false _ => true
  | _ => false

def Apart (L M : Loc) : Prop := L.block ≠ M.block ∨ L.ext = 0 ∨ M.ext = 0 ∨ L.off + L.ext ≤ M.off ∨ M.off + M.ext ≤ L.off
theorem Apart.symm {L M : Loc} (h : Apart L M) : Apart M L := by unfold Apart at *; omega

structure Sim (W : World) (φ : Phi) (H : AHeap) (w : World) : Prop where
  dom : ∀ i L, φ i = some L → i < H.length
  obj : ∀ i L, φ i = some L → ObjOk W.heap.size φ L (hget H i) w
  disj : ∀ i j L M, i ≠ j → φ i = some L → φ j = some M → (hget H i).isRow = true → (hget H j).isRow = true → Apart L M
  mdisj : ∀ i j L M, i ≠ j → φ i = some L → φ j = some M → (hget H i).isMap = true → (hget H j).isMap = true → L.block ≠ M.block
  base : Below W.heap.size W w

def Owned (φ : Phi) (H : AHeap) (b o : Nat) : Prop := ∃ i L, φ i = some L ∧ (hget H i).isRow = true ∧ L.block = b ∧ L.off ≤ o ∧ o < L.off + L.ext

structure Step (φ : Phi) (H : AHeap) (w : World) (φ' : Phi) (H' : AHeap) (w' : World) : Prop where
  agree : ∀ i, i < H.length → φ' i = φ i
  len : H.length ≤ H'.length
  size : w.heap.size ≤ w'.heap.size
  cells : ∀ b o, b < w.heap.size → ¬ Owned φ H b o → w'.cell? ⟨b, o, none⟩ = w.cell? ⟨b, o, none⟩
  frozen : ∀ b o, b < w.heap.size → ¬ Owned φ H b o → w'.frozen? ⟨b, o, none⟩ = w.frozen? ⟨b, o, none⟩
  own : ∀ b o, b < w.heap.size → Owned φ' H' b o → Owned φ H b o

theorem Step.refl (φ : Phi) (H : AHeap) (w : World) : Step φ H w φ H w :=
  ⟨fun _ _ => rfl, Nat.le_refl _, Nat.le_refl _, fun _ _ _ _ => rfl, fun _ _ _ _ => rfl, fun _ _ _ h => h⟩

theorem Step.trans {φ φ₁ φ₂ : Phi} {H H₁ H₂ : AHeap} {w w₁ w₂ : World} (h : Step φ H w φ₁ H₁ w₁) (k : Step φ₁ H₁ w₁ φ₂ H₂ w₂) : Step φ H w φ₂ H₂ w₂ where
  agree i hi := (k.agree i (Nat.lt_of_lt_of_le hi h.len)).trans (h.agree i hi)
  len := Nat.le_trans h.len k.len
  size := Nat.le_trans h.size k.size
  cells b o hb hn := (k.cells b o (Nat.lt_of_lt_of_le hb h.size) fun ho => hn (h.own b o hb ho)).trans (h.cells b o hb hn)
  frozen b o hb hn := (k.frozen b o (Nat.lt_of_lt_of_le hb h.size) fun ho => hn (h.own b o hb ho)).trans (h.frozen b o hb hn)
  own b o hb ho := h.own b o hb (k.own b o (Nat.lt_of_lt_of_le hb h.size) ho)

/-- What the map of blocks says of a value that it already tells of is kept. -/
theorem Step.keeps {W : World} {φ φ' : Phi} {H H' : AHeap} {w w' : World} (hs : Sim W φ H w) (h : Step φ H w φ' H' w') : ∀ i L, φ i = some L → φ' i = some L :=
  fun i L e => (h.agree i (hs.dom i L e)).trans e

theorem Sim.drew {W : World} {φ : Phi} {H : AHeap} {w : World} (h : Sim W φ H w) : Sim W φ H w.drew where
  dom := h.dom
  obj i L e := by
    have := h.obj i L e
    cases ho : hget H i with
    | dead => trivial
    | row ro cells => rw [ho] at this; exact ⟨this.fits, this.reads, this.old, this.own, this.there⟩
    | map es => rw [ho] at this; exact ⟨this.off, this.ext, this.own, this.flat, this.holds⟩
  disj := h.disj
  mdisj := h.mdisj
  base := h.base.drew
theorem Step.drew (φ : Phi) (H : AHeap) (w : World) : Step φ H w φ H w.drew :=
  ⟨fun _ _ => rfl, Nat.le_refl _, Nat.le_refl _, fun _ _ _ _ => rfl, fun _ _ _ _ => rfl, fun _ _ _ h => h⟩

theorem hget_append_lt {H : AHeap} {l : AHeap} {i : Nat} (h : i < H.length) : hget (H ++ l) i = hget H i := by
  simp [hget, List.getD, List.getElem?_append_left h]
theorem hget_append_ge {H : AHeap} {l : AHeap} {i : Nat} (h : H.length ≤ i) : hget (H ++ l) i = hget l (i - H.length) := by
  simp [hget, List.getD, List.getElem?_append_right h]
theorem hget_len (H : AHeap) (o : AObj) : hget (H ++ [o]) H.length = o := by
  rw [hget_append_ge (Nat.le_refl _)]; simp [hget]
theorem hget_ge {H : AHeap} {i : Nat} (h : H.length ≤ i) : hget H i = .dead := by
  simp [hget, List.getD, List.getElem?_eq_none h]
theorem hget_set_same {H : AHeap} {i : Nat} (o : AObj) (h : i < H.length) : hget (H.set i o) i = o := by
  simp [hget, List.getD, h]
theorem hget_set_other {H : AHeap} {i j : Nat} (o : AObj) (h : i ≠ j) : hget (H.set i o) j = hget H j := by
  simp [hget, List.getD, List.getElem?_set_ne h]

/-- A block more at the end of both. -/
theorem alloc_ok {W : World} {φ : Phi} {H : AHeap} {w : World} (hs : Sim W φ H w) (cells : List Value) (cs : Array Value) (T : TypeId)
    (hlen : cells.length ≤ cs.size) (hv : ∀ (j : Nat) c c', cells[j]? = some c → cs[j]? = some c' → V φ c c') :
    ∃ φ', Sim W φ' (H ++ [.row false cells]) (w.alloc (.cells cs T)) ∧ Step φ H w φ' (H ++ [.row false cells]) (w.alloc (.cells cs T)) ∧
      φ' H.length = some ⟨w.heap.size, 0, cs.size⟩ ∧ ∀ i L, φ i = some L → φ' i = some L := by
  have hfresh : φ H.length = none := by
    cases e : φ H.length with
    | none => rfl
    | some L => exact absurd (hs.dom _ _ e) (Nat.lt_irrefl _)
  let φ' : Phi := fun i => if i = H.length then some ⟨w.heap.size, 0, cs.size⟩ else φ i
  have hm : ∀ i L, φ i = some L → φ' i = some L := fun i L e => by
    have : i ≠ H.length := fun he => by rw [he, hfresh] at e; cases e
    simp [φ', this, e]
  have hnew : φ' H.length = some ⟨w.heap.size, 0, cs.size⟩ := by simp [φ']
  have hother : ∀ i, i ≠ H.length → φ' i = φ i := fun i hi => by simp [φ', hi]
  have hrow : ∀ j, j < cs.size → (∃ u, (w.alloc (.cells cs T)).cell? ⟨w.heap.size, 0 + j, none⟩ = some u) ∧ (w.alloc (.cells cs T)).frozen? ⟨w.heap.size, 0 + j, none⟩ = false := fun j hj => by
    refine ⟨⟨cs[j], by rw [Nat.zero_add, World.cell?_alloc_new]; exact Array.getElem?_eq_getElem hj⟩, ?_⟩
    simp
  have hold : ∀ (b o : Nat), b < w.heap.size → (w.alloc (.cells cs T)).cell? ⟨b, o, none⟩ = w.cell? ⟨b, o, none⟩ := fun b o hb => World.cell?_alloc_lt _ _ _ hb
  have holdf : ∀ (b o : Nat), b < w.heap.size → (w.alloc (.cells cs T)).frozen? ⟨b, o, none⟩ = w.frozen? ⟨b, o, none⟩ := fun b o hb => World.frozen?_alloc_old _ _ _ (Nat.ne_of_lt hb)
  have hmine : ∀ i L, φ i = some L → (hget H i).isRow = true → L.block < w.heap.size := fun i L e hm => by
    have := hs.obj i L e
    cases ho : hget H i with
    | dead => rw [ho] at hm; cases hm
    | row ro cells =>
      rw [ho] at this hm
      cases ro with
      | true => cases hm
      | false => exact (this.own rfl).2
    | map es => rw [ho] at hm; cases hm
  refine ⟨φ', ⟨?_, ?_, ?_, ?_, ?_⟩, ⟨?_, ?_, ?_, ?_, ?_, ?_⟩, hnew, hm⟩
  · intro i L e
    by_cases hi : i = H.length
    · subst hi; simp
    · rw [hother i hi] at e; have := hs.dom i L e; simp; omega
  · intro i L e
    by_cases hi : i = H.length
    · subst hi
      rw [hnew] at e
      obtain rfl := Option.some.inj e
      rw [hget_len]
      refine ⟨hlen, ?_, (by intro h; cases h), fun _ => ⟨hs.base.size, by simp⟩, fun _ => hrow⟩
      intro j c hc
      have hj : j < cs.size := by have := (List.getElem?_eq_some_iff.1 hc).1; omega
      exact ⟨cs[j], by rw [Nat.zero_add, World.cell?_alloc_new]; exact Array.getElem?_eq_getElem hj, (hv j c _ hc (Array.getElem?_eq_getElem hj)).mono hm⟩
    · rw [hother i hi] at e
      have hlt := hs.dom i L e
      rw [hget_append_lt hlt]
      have := hs.obj i L e
      cases ho : hget H i with
      | dead => trivial
      | row ro cells' =>
        rw [ho] at this
        refine ⟨this.fits, ?_, this.old, fun hr => ⟨(this.own hr).1, by have := (this.own hr).2; simp; omega⟩, fun hr j hj => ?_⟩
        · intro j c hc
          obtain ⟨c', h1, h2⟩ := this.reads j c hc
          exact ⟨c', by rw [hold _ _ (World.block_lt_of_cell? _ _ h1)]; exact h1, h2.mono hm⟩
        · rw [hold _ _ (this.own hr).2, holdf _ _ (this.own hr).2]; exact this.there hr j hj
      | map es =>
        rw [ho] at this
        exact ⟨this.off, this.ext, ⟨this.own.1, by have := this.own.2; simp; omega⟩, this.flat, by rw [(MapKept.heap_alloc w _).2 _ this.own.2]; exact this.holds⟩
  · intro i j L M hij ei ej hi hj
    have new : ∀ k K, k ≠ H.length → φ' k = some K → (hget (H ++ [AObj.row false cells]) k).isRow = true → K.block < w.heap.size := fun k K hk ek hk' => by
      rw [hother k hk] at ek
      rw [hget_append_lt (hs.dom k K ek)] at hk'
      exact hmine k K ek hk'
    by_cases h1 : i = H.length
    · subst h1
      rw [hnew] at ei; obtain rfl := Option.some.inj ei
      exact .inl (by have := new j M (fun h => hij h.symm) ej hj; simp; omega)
    · by_cases h2 : j = H.length
      · subst h2
        rw [hnew] at ej; obtain rfl := Option.some.inj ej
        exact .inl (by have := new i L h1 ei hi; simp; omega)
      · rw [hother i h1] at ei; rw [hother j h2] at ej
        rw [hget_append_lt (hs.dom i L ei)] at hi; rw [hget_append_lt (hs.dom j M ej)] at hj
        exact hs.disj i j L M hij ei ej hi hj
  · intro i j L M hij ei ej hi hj
    have h1 : i ≠ H.length := fun h => by subst h; rw [hget_len] at hi; cases hi
    have h2 : j ≠ H.length := fun h => by subst h; rw [hget_len] at hj; cases hj
    rw [hother i h1] at ei; rw [hother j h2] at ej
    rw [hget_append_lt (hs.dom i L ei)] at hi; rw [hget_append_lt (hs.dom j M ej)] at hj
    exact hs.mdisj i j L M hij ei ej hi hj
  · exact hs.base.alloc hs.base.size _
  · intro i hi; exact hother i (Nat.ne_of_lt hi)
  · simp
  · simp
  · intro b o hb _; exact hold b o hb
  · intro b o hb _; exact holdf b o hb
  · rintro b o hb ⟨i, L, e, hr, h1, h2, h3⟩
    by_cases hi : i = H.length
    · subst hi; rw [hnew] at e; obtain rfl := Option.some.inj e; simp at h1; omega
    · rw [hother i hi] at e
      rw [hget_append_lt (hs.dom i L e)] at hr
      exact ⟨i, L, e, hr, h1, h2, h3⟩

end Go.Proofs.Ytocaepkkaihiiaa.Am
