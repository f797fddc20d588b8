
/-
  The abstract machine, texts joined: AmB, Am0, Am1, Am2, Am3, Am4, Am5, Am6, Am7, Am9. No condition.
-/
import Derived.WalkKit
import Derived.ProofKit
import Derived.MapKept
import Derived.Orders
import Derived.Below
/-
  What is asked of the call's first world beyond what its arguments say: nothing. No condition.
-/
namespace Go.Proofs.YtdafmafigcljkaaGreat.Am
open Go
def BaseOk (_W : World) : Prop := True
end Go.Proofs.YtdafmafigcljkaaGreat.Am
/-
  An abstract machine over this model's programs, first part: abstract memory, its relation to a world, and what a step keeps. No condition.
-/
namespace Go.Proofs.YtdafmafigcljkaaGreat.Am
open Go Go.RowKit
inductive AObj where
  | dead
  | row (ro : Bool) (cells : List Value)
  | map (es : List (Value × Value))
abbrev AHeap := List AObj
def hget (H : AHeap) (i : Nat) : AObj := H.getD i .dead
structure Loc where
  block : Nat
  off : Nat
  ext : Nat
abbrev Phi := Nat → Option Loc
def capU : Nat := 18446744073709551616
def capE : Nat := capU + capU
inductive V (φ : Phi) : Value → Value → Prop where
  | bool (b : Bool) : V φ (.bool b) (.bool b)
  | int (k : IntKind) (n : Int) : V φ (.int k n) (.int k n)
  | string (s : ByteArray) : V φ (.string s) (.string s)
  | nilPtr : V φ (.pointer none) (.pointer none)
  | ptr (i o : Nat) (L : Loc) (h : φ i = some L) : V φ (.pointer (some ⟨i, o, none⟩)) (.pointer (some ⟨L.block, L.off + o, none⟩))
  | nilSlice : V φ (.slice none 0 0) (.slice none 0 0)
  | slice (i o n c : Nat) (L : Loc) (c' : Nat) (h : φ i = some L) (hc : c < capU → c' = c) (hu : ∀ m, c = capU + m → o + c' * m ≤ L.ext) (hn : n ≤ c') :
      V φ (.slice (some ⟨i, o, none⟩) n c) (.slice (some ⟨L.block, L.off + o, none⟩) n c')
  | empty (i o : Nat) (a : Option Addr) (c' : Nat) : V φ (.slice (some ⟨i, o, none⟩) 0 capE) (.slice a 0 c')
  | nilMap : V φ (.map none) (.map none)
  | map (r : Nat) (L : Loc) (h : φ r = some L) : V φ (.map (some r)) (.map (some L.block))
  | nilFunc : V φ .nilFunc .nilFunc
  | nilIface : V φ .nilIface .nilIface
  | iface (t : TypeId) (v v' : Value) (h : V φ v v') : V φ (.iface t v) (.iface t v')
  | func (fn : Fn) (fs fs' cs cs' : Array Value) (h1 : fs.size = fs'.size) (h2 : cs.size = cs'.size)
      (hf : ∀ (i : Nat) v v', fs[i]? = some v → fs'[i]? = some v' → V φ v v') (hc : ∀ (i : Nat) v v', cs[i]? = some v → cs'[i]? = some v' → V φ v v') :
      V φ (.func fn fs cs) (.func fn fs' cs')
  | agg (cs cs' : Array Value) (h : cs.size = cs'.size) (hc : ∀ (i : Nat) v v', cs[i]? = some v → cs'[i]? = some v' → V φ v v') : V φ (.agg cs) (.agg cs')
  | tuple (cs cs' : Array Value) (h : cs.size = cs'.size) (hc : ∀ (i : Nat) v v', cs[i]? = some v → cs'[i]? = some v' → V φ v v') : V φ (.tuple cs) (.tuple cs')
theorem V.mono {φ φ' : Phi} (hm : ∀ i L, φ i = some L → φ' i = some L) {v v' : Value} (h : V φ v v') : V φ' v v' := by
  induction h with
  | bool b => exact .bool b
  | int k n => exact .int k n
  | string s => exact .string s
  | nilPtr => exact .nilPtr
  | ptr i o L h => exact .ptr i o L (hm _ _ h)
  | nilSlice => exact .nilSlice
  | slice i o n c L c' h hc hu hn => exact .slice i o n c L c' (hm _ _ h) hc hu hn
  | empty i o a c' => exact .empty i o a c'
  | nilMap => exact .nilMap
  | map r L h => exact .map r L (hm _ _ h)
  | nilFunc => exact .nilFunc
  | nilIface => exact .nilIface
  | iface t v v' _ ih => exact .iface t v v' ih
  | func fn fs fs' cs cs' h1 h2 _ _ ihf ihc => exact .func fn fs fs' cs cs' h1 h2 ihf ihc
  | agg cs cs' h _ ih => exact .agg cs cs' h ih
  | tuple cs cs' h _ ih => exact .tuple cs cs' h ih
inductive Flat : Value → Prop where
  | bool (b : Bool) : Flat (.bool b)
  | int (k : IntKind) (n : Int) : Flat (.int k n)
  | string (s : ByteArray) : Flat (.string s)
  | nilPtr : Flat (.pointer none)
  | nilSlice : Flat (.slice none 0 0)
  | nilMap : Flat (.map none)
  | nilFunc : Flat .nilFunc
  | nilIface : Flat .nilIface
  | fn (f : Fn) : Flat (.func f #[] #[])
  | agg (cs : Array Value) (h : ∀ (i : Nat) v, cs[i]? = some v → Flat v) : Flat (.agg cs)
  | tuple (cs : Array Value) (h : ∀ (i : Nat) v, cs[i]? = some v → Flat v) : Flat (.tuple cs)
theorem V.flat {φ : Phi} {v : Value} (h : Flat v) : V φ v v := by
  induction h with
  | bool b => exact .bool b
  | int k n => exact .int k n
  | string s => exact .string s
  | nilPtr => exact .nilPtr
  | nilSlice => exact .nilSlice
  | nilMap => exact .nilMap
  | nilFunc => exact .nilFunc
  | nilIface => exact .nilIface
  | fn f => exact .func f _ _ _ _ rfl rfl (fun i v v' h => by simp at h) (fun i v v' h => by simp at h)
  | agg cs h ih => exact .agg _ _ rfl fun i v v' h1 h2 => by rw [h1] at h2; obtain rfl := Option.some.inj h2; exact ih i v h1
  | tuple cs h ih => exact .tuple _ _ rfl fun i v v' h1 h2 => by rw [h1] at h2; obtain rfl := Option.some.inj h2; exact ih i v h1
theorem V.of_flat {φ : Phi} {v v' : Value} (hf : Flat v) (h : V φ v v') : v' = v := by
  induction hf generalizing v' with
  | fn f =>
    cases h with
    | func _ _ fs' _ cs' h1 h2 _ _ =>
      obtain rfl : fs' = #[] := Array.eq_empty_of_size_eq_zero h1.symm
      obtain rfl : cs' = #[] := Array.eq_empty_of_size_eq_zero h2.symm
      rfl
  | agg cs _ ih =>
    cases h with
    | agg _ cs' h hc =>
      congr 1
      apply Array.ext_getElem?
      intro i
      cases e : cs[i]? with
      | none => rw [Array.getElem?_eq_none_iff] at e ⊢; omega
      | some u =>
        have hi : i < cs'.size := by have := (Array.getElem?_eq_some_iff.1 e).1; omega
        have e' : cs'[i]? = some cs'[i] := Array.getElem?_eq_getElem hi
        rw [e', ih i u e (hc i u _ e e')]
  | tuple cs _ ih =>
    cases h with
    | tuple _ cs' h hc =>
      congr 1
      apply Array.ext_getElem?
      intro i
      cases e : cs[i]? with
      | none => rw [Array.getElem?_eq_none_iff] at e ⊢; omega
      | some u =>
        have hi : i < cs'.size := by have := (Array.getElem?_eq_some_iff.1 e).1; omega
        have e' : cs'[i]? = some cs'[i] := Array.getElem?_eq_getElem hi
        rw [e', ih i u e (hc i u _ e e')]
  | _ => cases h <;> rfl
def oneCell : Value → Bool
  | .agg _ | .tuple _ => false
  | _ => true
theorem V.oneCell {φ : Phi} {v v' : Value} (h : V φ v v') : Am.oneCell v' = Am.oneCell v := by cases h <;> rfl
theorem oneCell_eq (v : Value) : v.oneCell' = oneCell v := by cases v <;> rfl
structure RowOk (B : Nat) (φ : Phi) (L : Loc) (ro : Bool) (cells : List Value) (w : World) : Prop where
  fits : cells.length ≤ L.ext
  reads : ∀ (j : Nat) c, cells[j]? = some c → ∃ c', w.cell? ⟨L.block, L.off + j, none⟩ = some c' ∧ V φ c c'
  old : ro = true → L.block < B
  own : ro = false → B ≤ L.block ∧ L.block < w.heap.size
  there : ro = false → ∀ j, j < L.ext → (∃ u, w.cell? ⟨L.block, L.off + j, none⟩ = some u) ∧ w.frozen? ⟨L.block, L.off + j, none⟩ = false
def mkE (es : List (Value × Value)) : Array MapEntry := (es.mapIdx fun i e => { key := e.1, val := e.2, born := i }).toArray
structure MapOk (B : Nat) (L : Loc) (es : List (Value × Value)) (w : World) : Prop where
  off : L.off = 0
  ext : L.ext = 1
  own : B ≤ L.block ∧ L.block < w.heap.size
  flat : ∀ e ∈ es, Flat e.1 ∧ Flat e.2
  holds : w.heap[L.block]? = some (.map (mkE es) es.length)
def ObjOk (B : Nat) (φ : Phi) (L : Loc) (o : AObj) (w : World) : Prop :=
  match o with
  | .dead => True
  | .row ro cells => RowOk B φ L ro cells w
  | .map es => MapOk B L es w
def AObj.isMap : AObj → Bool
  | .map _ => true
  | _ => false
def AObj.isRow : AObj → Bool
  | .row false _ => true
  | _ => false
def Apart (L M : Loc) : Prop := L.block ≠ M.block ∨ L.ext = 0 ∨ M.ext = 0 ∨ L.off + L.ext ≤ M.off ∨ M.off + M.ext ≤ L.off
theorem Apart.symm {L M : Loc} (h : Apart L M) : Apart M L := by unfold Apart at *; omega
structure Based (W w : World) : Prop where
  below : Below W.heap.size W w
  ok : BaseOk W
theorem Based.size {W w : World} (h : Based W w) : W.heap.size ≤ w.heap.size := h.below.size
theorem Based.drew {W w : World} (h : Based W w) : Based W w.drew := ⟨h.below.drew, h.ok⟩
theorem Based.alloc {W w : World} (h : Based W w) (hn : W.heap.size ≤ w.heap.size) (o : Obj) : Based W (w.alloc o) := ⟨h.below.alloc hn o, h.ok⟩
theorem Based.trans {W w w' : World} (h : Based W w) (h2 : Below W.heap.size w w') : Based W w' := ⟨h.below.trans h2, h.ok⟩
structure Sim (W : World) (φ : Phi) (H : AHeap) (w : World) : Prop where
  dom : ∀ i L, φ i = some L → i < H.length
  obj : ∀ i L, φ i = some L → ObjOk W.heap.size φ L (hget H i) w
  disj : ∀ i j L M, i ≠ j → φ i = some L → φ j = some M → (hget H i).isRow = true → (hget H j).isRow = true → Apart L M
  mdisj : ∀ i j L M, i ≠ j → φ i = some L → φ j = some M → (hget H i).isMap = true → (hget H j).isMap = true → L.block ≠ M.block
  base : Based W w
def Owned (φ : Phi) (H : AHeap) (b o : Nat) : Prop := ∃ i L, φ i = some L ∧ (hget H i).isRow = true ∧ L.block = b ∧ L.off ≤ o ∧ o < L.off + L.ext
structure Step (φ : Phi) (H : AHeap) (w : World) (φ' : Phi) (H' : AHeap) (w' : World) : Prop where
  agree : ∀ i, i < H.length → φ' i = φ i
  len : H.length ≤ H'.length
  size : w.heap.size ≤ w'.heap.size
  cells : ∀ b o, b < w.heap.size → ¬ Owned φ H b o → w'.cell? ⟨b, o, none⟩ = w.cell? ⟨b, o, none⟩
  frozen : ∀ b o, b < w.heap.size → ¬ Owned φ H b o → w'.frozen? ⟨b, o, none⟩ = w.frozen? ⟨b, o, none⟩
  own : ∀ b o, b < w.heap.size → Owned φ' H' b o → Owned φ H b o
theorem Step.refl (φ : Phi) (H : AHeap) (w : World) : Step φ H w φ H w :=
  ⟨fun _ _ => rfl, Nat.le_refl _, Nat.le_refl _, fun _ _ _ _ => rfl, fun _ _ _ _ => rfl, fun _ _ _ h => h⟩
theorem Step.trans {φ φ₁ φ₂ : Phi} {H H₁ H₂ : AHeap} {w w₁ w₂ : World} (h : Step φ H w φ₁ H₁ w₁) (k : Step φ₁ H₁ w₁ φ₂ H₂ w₂) : Step φ H w φ₂ H₂ w₂ where
  agree i hi := (k.agree i (Nat.lt_of_lt_of_le hi h.len)).trans (h.agree i hi)
  len := Nat.le_trans h.len k.len
  size := Nat.le_trans h.size k.size
  cells b o hb hn := (k.cells b o (Nat.lt_of_lt_of_le hb h.size) fun ho => hn (h.own b o hb ho)).trans (h.cells b o hb hn)
  frozen b o hb hn := (k.frozen b o (Nat.lt_of_lt_of_le hb h.size) fun ho => hn (h.own b o hb ho)).trans (h.frozen b o hb hn)
  own b o hb ho := h.own b o hb (k.own b o (Nat.lt_of_lt_of_le hb h.size) ho)
theorem Step.keeps {W : World} {φ φ' : Phi} {H H' : AHeap} {w w' : World} (hs : Sim W φ H w) (h : Step φ H w φ' H' w') : ∀ i L, φ i = some L → φ' i = some L :=
  fun i L e => (h.agree i (hs.dom i L e)).trans e
theorem Sim.drew {W : World} {φ : Phi} {H : AHeap} {w : World} (h : Sim W φ H w) : Sim W φ H w.drew where
  dom := h.dom
  obj i L e := by
    have := h.obj i L e
    cases ho : hget H i with
    | dead => trivial
    | row ro cells => rw [ho] at this; exact ⟨this.fits, this.reads, this.old, this.own, this.there⟩
    | map es => rw [ho] at this; exact ⟨this.off, this.ext, this.own, this.flat, this.holds⟩
  disj := h.disj
  mdisj := h.mdisj
  base := h.base.drew
theorem Step.drew (φ : Phi) (H : AHeap) (w : World) : Step φ H w φ H w.drew :=
  ⟨fun _ _ => rfl, Nat.le_refl _, Nat.le_refl _, fun _ _ _ _ => rfl, fun _ _ _ _ => rfl, fun _ _ _ h => h⟩
theorem hget_append_lt {H : AHeap} {l : AHeap} {i : Nat} (h : i < H.length) : hget (H ++ l) i = hget H i := by
  simp [hget, List.getD, List.getElem?_append_left h]
theorem hget_append_ge {H : AHeap} {l : AHeap} {i : Nat} (h : H.length ≤ i) : hget (H ++ l) i = hget l (i - H.length) := by
  simp [hget, List.getD, List.getElem?_append_right h]
theorem hget_len (H : AHeap) (o : AObj) : hget (H ++ [o]) H.length = o := by
  rw [hget_append_ge (Nat.le_refl _)]; simp [hget]
theorem hget_ge {H : AHeap} {i : Nat} (h : H.length ≤ i) : hget H i = .dead := by
  simp [hget, List.getD, List.getElem?_eq_none h]
theorem hget_set_same {H : AHeap} {i : Nat} (o : AObj) (h : i < H.length) : hget (H.set i o) i = o := by
  simp [hget, List.getD, h]
theorem hget_set_other {H : AHeap} {i j : Nat} (o : AObj) (h : i ≠ j) : hget (H.set i o) j = hget H j := by
  simp [hget, List.getD, List.getElem?_set_ne h]
theorem alloc_ok {W : World} {φ : Phi} {H : AHeap} {w : World} (hs : Sim W φ H w) (cells : List Value) (cs : Array Value) (T : TypeId)
    (hlen : cells.length ≤ cs.size) (hv : ∀ (j : Nat) c c', cells[j]? = some c → cs[j]? = some c' → V φ c c') :
    ∃ φ', Sim W φ' (H ++ [.row false cells]) (w.alloc (.cells cs T)) ∧ Step φ H w φ' (H ++ [.row false cells]) (w.alloc (.cells cs T)) ∧
      φ' H.length = some ⟨w.heap.size, 0, cs.size⟩ ∧ ∀ i L, φ i = some L → φ' i = some L := by
  have hfresh : φ H.length = none := by
    cases e : φ H.length with
    | none => rfl
    | some L => exact absurd (hs.dom _ _ e) (Nat.lt_irrefl _)
  let φ' : Phi := fun i => if i = H.length then some ⟨w.heap.size, 0, cs.size⟩ else φ i
  have hm : ∀ i L, φ i = some L → φ' i = some L := fun i L e => by
    have : i ≠ H.length := fun he => by rw [he, hfresh] at e; cases e
    simp [φ', this, e]
  have hnew : φ' H.length = some ⟨w.heap.size, 0, cs.size⟩ := by simp [φ']
  have hother : ∀ i, i ≠ H.length → φ' i = φ i := fun i hi => by simp [φ', hi]
  have hrow : ∀ j, j < cs.size → (∃ u, (w.alloc (.cells cs T)).cell? ⟨w.heap.size, 0 + j, none⟩ = some u) ∧ (w.alloc (.cells cs T)).frozen? ⟨w.heap.size, 0 + j, none⟩ = false := fun j hj => by
    refine ⟨⟨cs[j], by rw [Nat.zero_add, World.cell?_alloc_new]; exact Array.getElem?_eq_getElem hj⟩, ?_⟩
    simp
  have hold : ∀ (b o : Nat), b < w.heap.size → (w.alloc (.cells cs T)).cell? ⟨b, o, none⟩ = w.cell? ⟨b, o, none⟩ := fun b o hb => World.cell?_alloc_lt _ _ _ hb
  have holdf : ∀ (b o : Nat), b < w.heap.size → (w.alloc (.cells cs T)).frozen? ⟨b, o, none⟩ = w.frozen? ⟨b, o, none⟩ := fun b o hb => World.frozen?_alloc_old _ _ _ (Nat.ne_of_lt hb)
  have hmine : ∀ i L, φ i = some L → (hget H i).isRow = true → L.block < w.heap.size := fun i L e hm => by
    have := hs.obj i L e
    cases ho : hget H i with
    | dead => rw [ho] at hm; cases hm
    | row ro cells =>
      rw [ho] at this hm
      cases ro with
      | true => cases hm
      | false => exact (this.own rfl).2
    | map es => rw [ho] at hm; cases hm
  refine ⟨φ', ⟨?_, ?_, ?_, ?_, ?_⟩, ⟨?_, ?_, ?_, ?_, ?_, ?_⟩, hnew, hm⟩
  · intro i L e
    by_cases hi : i = H.length
    · subst hi; simp
    · rw [hother i hi] at e; have := hs.dom i L e; simp; omega
  · intro i L e
    by_cases hi : i = H.length
    · subst hi
      rw [hnew] at e
      obtain rfl := Option.some.inj e
      rw [hget_len]
      refine ⟨hlen, ?_, (by intro h; cases h), fun _ => ⟨hs.base.size, by simp⟩, fun _ => hrow⟩
      intro j c hc
      have hj : j < cs.size := by have := (List.getElem?_eq_some_iff.1 hc).1; omega
      exact ⟨cs[j], by rw [Nat.zero_add, World.cell?_alloc_new]; exact Array.getElem?_eq_getElem hj, (hv j c _ hc (Array.getElem?_eq_getElem hj)).mono hm⟩
    · rw [hother i hi] at e
      have hlt := hs.dom i L e
      rw [hget_append_lt hlt]
      have := hs.obj i L e
      cases ho : hget H i with
      | dead => trivial
      | row ro cells' =>
        rw [ho] at this
        refine ⟨this.fits, ?_, this.old, fun hr => ⟨(this.own hr).1, by have := (this.own hr).2; simp; omega⟩, fun hr j hj => ?_⟩
        · intro j c hc
          obtain ⟨c', h1, h2⟩ := this.reads j c hc
          exact ⟨c', by rw [hold _ _ (World.block_lt_of_cell? _ _ h1)]; exact h1, h2.mono hm⟩
        · rw [hold _ _ (this.own hr).2, holdf _ _ (this.own hr).2]; exact this.there hr j hj
      | map es =>
        rw [ho] at this
        exact ⟨this.off, this.ext, ⟨this.own.1, by have := this.own.2; simp; omega⟩, this.flat, by rw [(MapKept.heap_alloc w _).2 _ this.own.2]; exact this.holds⟩
  · intro i j L M hij ei ej hi hj
    have new : ∀ k K, k ≠ H.length → φ' k = some K → (hget (H ++ [AObj.row false cells]) k).isRow = true → K.block < w.heap.size := fun k K hk ek hk' => by
      rw [hother k hk] at ek
      rw [hget_append_lt (hs.dom k K ek)] at hk'
      exact hmine k K ek hk'
    by_cases h1 : i = H.length
    · subst h1
      rw [hnew] at ei; obtain rfl := Option.some.inj ei
      exact .inl (by have := new j M (fun h => hij h.symm) ej hj; simp; omega)
    · by_cases h2 : j = H.length
      · subst h2
        rw [hnew] at ej; obtain rfl := Option.some.inj ej
        exact .inl (by have := new i L h1 ei hi; simp; omega)
      · rw [hother i h1] at ei; rw [hother j h2] at ej
        rw [hget_append_lt (hs.dom i L ei)] at hi; rw [hget_append_lt (hs.dom j M ej)] at hj
        exact hs.disj i j L M hij ei ej hi hj
  · intro i j L M hij ei ej hi hj
    have h1 : i ≠ H.length := fun h => by subst h; rw [hget_len] at hi; cases hi
    have h2 : j ≠ H.length := fun h => by subst h; rw [hget_len] at hj; cases hj
    rw [hother i h1] at ei; rw [hother j h2] at ej
    rw [hget_append_lt (hs.dom i L ei)] at hi; rw [hget_append_lt (hs.dom j M ej)] at hj
    exact hs.mdisj i j L M hij ei ej hi hj
  · exact hs.base.alloc hs.base.size _
  · intro i hi; exact hother i (Nat.ne_of_lt hi)
  · simp
  · simp
  · intro b o hb _; exact hold b o hb
  · intro b o hb _; exact holdf b o hb
  · rintro b o hb ⟨i, L, e, hr, h1, h2, h3⟩
    by_cases hi : i = H.length
    · subst hi; rw [hnew] at e; obtain rfl := Option.some.inj e; simp at h1; omega
    · rw [hother i hi] at e
      rw [hget_append_lt (hs.dom i L e)] at hr
      exact ⟨i, L, e, hr, h1, h2, h3⟩
end Go.Proofs.YtdafmafigcljkaaGreat.Am
/-
  An abstract machine over this model's programs, second part: the frame, and the operations that look at no memory. No condition.
-/
namespace Go.Proofs.YtdafmafigcljkaaGreat.Am
open Go Go.RowKit
set_option linter.unusedVariables false
abbrev Env := List (Nat × Value)
def eget : Env → Nat → Option Value
  | [], _ => none
  | (k, v) :: t, n => match Nat.beq n k with
    | true => some v
    | false => eget t n
def eput (t : Env) (d : Option Tmp) (v : Value) : Env :=
  match d with
  | some d => (d, v) :: t
  | none => t
def flat0 : Value → Bool
  | .bool _ | .int _ _ | .string _ | .pointer none | .slice none 0 0 | .map none | .nilFunc | .nilIface => true
  | _ => false
def flatB : Value → Bool
  | .agg cs | .tuple cs => cs.toList.all flat0
  | v => flat0 v
theorem flat0_ok {v : Value} (h : flat0 v = true) : Flat v := by
  unfold flat0 at h
  split at h
  · exact .bool _
  · exact .int _ _
  · exact .string _
  · exact .nilPtr
  · exact .nilSlice
  · exact .nilMap
  · exact .nilFunc
  · exact .nilIface
  · cases h
theorem flat0_all {cs : Array Value} (h : cs.toList.all flat0 = true) (i : Nat) (v : Value) (hv : cs[i]? = some v) : Flat v := by
  rw [List.all_eq_true] at h
  exact flat0_ok (h v (by simpa using Array.mem_of_getElem? hv))
theorem flatB_ok {v : Value} (h : flatB v = true) : Flat v := by
  cases v with
  | agg cs => exact .agg cs (flat0_all h)
  | tuple cs => exact .tuple cs (flat0_all h)
  | _ => exact flat0_ok h
def aEv (t : Env) : Operand → Option Value
  | .tmp k => eget t k
  | .const v => match flatB v with
    | true => some v
    | false => none
  | .global _ => none
  | .func f => some (.func (.func f) #[] #[])
structure EnvR (φ : Phi) (N : Nat) (t : Env) (a : Act) : Prop where
  size : a.tmps.size = N
  get : ∀ k v, eget t k = some v → ∃ v', a.tmps[k]? = some v' ∧ V φ v v'
theorem EnvR.mono {φ φ' : Phi} {N : Nat} {t : Env} {a : Act} (h : EnvR φ N t a) (hm : ∀ i L, φ i = some L → φ' i = some L) : EnvR φ' N t a :=
  ⟨h.size, fun k v e => let ⟨v', h1, h2⟩ := h.get k v e; ⟨v', h1, h2.mono hm⟩⟩
def Sub (t' t : Env) : Prop := ∀ k v, eget t' k = some v → eget t k = some v
theorem Sub.refl (t : Env) : Sub t t := fun _ _ h => h
theorem Sub.nil (t : Env) : Sub [] t := fun _ _ h => by cases h
theorem Sub.cons {t' t : Env} {k : Nat} {v : Value} (h1 : eget t k = some v) (h : Sub t' t) : Sub ((k, v) :: t') t := by
  intro n u e
  unfold eget at e
  split at e
  · rename_i hb
    obtain rfl : n = k := Nat.eq_of_beq_eq_true hb
    obtain rfl := Option.some.inj e
    exact h1
  · exact h n u e
theorem EnvR.sub {φ : Phi} {N : Nat} {t t' : Env} {a : Act} (h : EnvR φ N t a) (hs : Sub t' t) : EnvR φ N t' a :=
  ⟨h.size, fun k v e => h.get k v (hs k v e)⟩
theorem ev_ok {φ : Phi} {N : Nat} {t : Env} {a : Act} (h : EnvR φ N t a) {x : Operand} {v : Value} (e : aEv t x = some v) : V φ v (a.eval x) := by
  cases x with
  | tmp k =>
    obtain ⟨v', h1, h2⟩ := h.get k v e
    have : a.eval (.tmp k) = v' := by simp [Act.eval, h1]
    rw [this]; exact h2
  | const u =>
    simp only [aEv] at e
    split at e
    · rename_i hf
      obtain rfl := Option.some.inj e
      exact V.flat (flatB_ok hf)
    · cases e
  | global g => cases e
  | func f =>
    obtain rfl := Option.some.inj e
    exact V.flat (.fn _)
theorem EnvR.put {φ : Phi} {N : Nat} {t : Env} {a : Act} (h : EnvR φ N t a) {d : Option Tmp} {v v' : Value} (hd : ∀ k, d = some k → k < N) (hv : V φ v v') :
    EnvR φ N (eput t d v) (a.put d v') := by
  cases d with
  | none => exact h
  | some d =>
    refine ⟨by simp [Act.put, h.size], fun k u e => ?_⟩
    have hlt : d < a.tmps.size := by rw [h.size]; exact hd d rfl
    simp only [eput, eget] at e
    split at e
    · rename_i hb
      obtain rfl : k = d := Nat.eq_of_beq_eq_true hb
      obtain rfl := Option.some.inj e
      exact ⟨v', by simp [Act.put, hlt], hv⟩
    · rename_i hb
      have hne : d ≠ k := fun he => by subst he; simp at hb
      obtain ⟨u', h1, h2⟩ := h.get k u e
      exact ⟨u', by simp only [Act.put]; rw [Array.getElem?_setIfInBounds_ne hne]; exact h1, h2⟩
def Does (P : Program) (o : Oper) (a : Act) (w : World) (R : Value → World → Prop) : Prop :=
  match (execOp a.eval o).run P w with
  | .ok (.value v) w' => R v w'
  | .ok .skip w' => R undef w'
  | .ok (.enter f args) w' => Calls P f args w' fun e w'' => ∃ v, e = .returned v ∧ R v w''
  | _ => False
theorem Does.wp {P : Program} {o : Oper} {a : Act} {w : World} {R : Value → World → Prop} {next : Act → World → Prop} {Q : Exit → Act → World → Prop}
    (h : Does P o a w R) (hn : ∀ v w', R v w' → next (a.put o.dst v) w') : o.wp P a w next Q := by
  unfold Does at h
  unfold Oper.wp
  generalize (execOp a.eval o).run P w = r at h
  cases r with
  | ok n w' =>
    cases n <;> simp only [Oper.upon] at h ⊢
    case value v => exact hn _ _ h
    case skip => exact hn _ _ h
    case enter f args => exact h.mono fun e w'' ⟨v, he, hr⟩ => by subst he; exact hn _ _ hr
    all_goals exact h.elim
  | halt x w' => exact h.elim
theorem Does.mono {P : Program} {o : Oper} {a : Act} {w : World} {R R' : Value → World → Prop} (h : Does P o a w R) (hr : ∀ v w', R v w' → R' v w') : Does P o a w R' := by
  unfold Does at *
  generalize (execOp a.eval o).run P w = r at h
  cases r with
  | ok n w' =>
    cases n <;> simp only at h ⊢
    case value v => exact hr _ _ h
    case skip => exact hr _ _ h
    case enter f args => exact h.mono fun e w'' ⟨v, he, hr'⟩ => ⟨v, he, hr _ _ hr'⟩
  | halt x w' => exact h.elim
theorem Does.of_value {P : Program} {o : Oper} {a : Act} {w w' : World} {R : Value → World → Prop} {v : Value}
    (h : (execOp a.eval o).run P w = .ok (.value v) w') (hr : R v w') : Does P o a w R := by unfold Does; rw [h]; exact hr
theorem Does.of_skip {P : Program} {o : Oper} {a : Act} {w w' : World} {R : Value → World → Prop}
    (h : (execOp a.eval o).run P w = .ok .skip w') (hr : R undef w') : Does P o a w R := by unfold Does; rw [h]; exact hr
def OpOk (P : Program) (N : Nat) (o : Oper) (t : Env) (H : AHeap) (v : Value) (H' : AHeap) : Prop :=
  ∀ W φ w a, Sim W φ H w → EnvR φ N t a → Does P o a w fun v' w' => ∃ φ' : Phi, Sim W φ' H' w' ∧ V φ' v v' ∧ Step φ H w φ' H' w'
def PureOk (P : Program) (N : Nat) (o : Oper) (t : Env) (v : Value) : Prop :=
  ∀ φ w a, EnvR φ N t a → ∃ v', (execOp a.eval o).run P w = .ok (.value v') w ∧ V φ v v'
theorem PureOk.op {P : Program} {N : Nat} {o : Oper} {t : Env} {v : Value} (h : PureOk P N o t v) (H : AHeap) : OpOk P N o t H v H :=
  fun W φ w a hs he => let ⟨v', h1, h2⟩ := h φ w a he; Does.of_value h1 ⟨φ, hs, h2, Step.refl _ _ _⟩
section pure
variable {P : Program} {N : Nat} {t : Env} {d : Option Tmp} {ty : TypeId} {pos : String} {af : Array Edge} {g : Option (Nat × Bool)}
theorem p_move {x : Operand} {v : Value} (hx : aEv t x = some v) : PureOk P N ⟨d, .move x, ty, pos, af, g⟩ t v :=
  fun _ _ _ he => ⟨_, rfl, ev_ok he hx⟩
theorem p_assign {x : Operand} {v : Value} (hx : aEv t x = some v) : PureOk P N ⟨d, .assign x, ty, pos, af, g⟩ t v :=
  fun _ _ _ he => ⟨_, rfl, ev_ok he hx⟩
theorem ev_bool {φ : Phi} {a : Act} (h : EnvR φ N t a) {x : Operand} {b : Bool} (e : aEv t x = some (.bool b)) : a.eval x = .bool b := V.of_flat (.bool b) (ev_ok h e)
theorem ev_int {φ : Phi} {a : Act} (h : EnvR φ N t a) {x : Operand} {k : IntKind} {n : Int} (e : aEv t x = some (.int k n)) : a.eval x = .int k n := V.of_flat (.int k n) (ev_ok h e)
theorem ev_string {φ : Phi} {a : Act} (h : EnvR φ N t a) {x : Operand} {s : ByteArray} (e : aEv t x = some (.string s)) : a.eval x = .string s := V.of_flat (.string s) (ev_ok h e)
theorem p_pick {c x y : Operand} {b : Bool} {v : Value} (hc : aEv t c = some (.bool b)) (hx : b = true → aEv t x = some v) (hy : b = false → aEv t y = some v) :
    PureOk P N ⟨d, .pick c x y, ty, pos, af, g⟩ t v := by
  intro φ w a he
  cases b with
  | true => exact ⟨_, by simp [execOp, ev_bool he hc, asBool], ev_ok he (hx rfl)⟩
  | false => exact ⟨_, by simp [execOp, ev_bool he hc, asBool], ev_ok he (hy rfl)⟩
theorem flatV {φ : Phi} {v : Value} (h : flat0 v = true) : V φ v v := V.flat (flat0_ok h)
theorem p_bin {op : BinOp} {xT yT : TypeId} {x y : Operand} {u v r : Value} (hx : aEv t x = some u) (hy : aEv t y = some v)
    (hu : Flat u) (hv : Flat v) (hr : Flat r)
    (hrun : ∀ w, (do eqGuard op xT x y u v; binOp op xT u v).run P w = .ok r w) : PureOk P N ⟨d, .binOp op xT x y yT, ty, pos, af, g⟩ t r := by
  intro φ w a he
  have h1 := V.of_flat hu (ev_ok he hx)
  have h2 := V.of_flat hv (ev_ok he hy)
  refine ⟨r, ?_, V.flat hr⟩
  have h3 := hrun w
  simp only [execOp]
  rw [h1, h2]
  simp only [Sem.run_bind] at h3 ⊢
  rw [h3]
  rfl
theorem guard_int (op : BinOp) (xT : TypeId) (x y : Operand) (k j : IntKind) (a b : Int) (w : World) : (eqGuard op xT x y (.int k a) (.int j b)).run P w = .ok () w := by
  unfold eqGuard; cases op <;> rfl
theorem guard_bool (op : BinOp) (xT : TypeId) (x y : Operand) (a b : Bool) (w : World) : (eqGuard op xT x y (.bool a) (.bool b)).run P w = .ok () w := by
  unfold eqGuard; cases op <;> rfl
theorem p_int {op : BinOp} {xT yT : TypeId} {x y : Operand} {k : IntKind} {a b : Int} {r : Value} (hx : aEv t x = some (.int k a)) (hy : aEv t y = some (.int k b)) (hr : flat0 r = true)
    (hrun : ∀ w, (binOp op xT (.int k a) (.int k b)).run P w = .ok r w) : PureOk P N ⟨d, .binOp op xT x y yT, ty, pos, af, g⟩ t r :=
  p_bin hx hy (.int _ _) (.int _ _) (flat0_ok hr) fun w => by rw [Sem.run_bind, guard_int]; exact hrun w
variable {xT yT : TypeId} {x y : Operand} {k : IntKind} {a b r : Int}
theorem p_add (hx : aEv t x = some (.int k a)) (hy : aEv t y = some (.int k b)) (hr : k.wrap (a + b) = r) : PureOk P N ⟨d, .binOp .add xT x y yT, ty, pos, af, g⟩ t (.int k r) :=
  p_int hx hy rfl fun w => by simp [binOp, Op.intArith, hr]
theorem p_sub (hx : aEv t x = some (.int k a)) (hy : aEv t y = some (.int k b)) (hr : k.wrap (a - b) = r) : PureOk P N ⟨d, .binOp .sub xT x y yT, ty, pos, af, g⟩ t (.int k r) :=
  p_int hx hy rfl fun w => by simp [binOp, Op.intArith, hr]
theorem p_mul (hx : aEv t x = some (.int k a)) (hy : aEv t y = some (.int k b)) (hr : k.wrap (a * b) = r) : PureOk P N ⟨d, .binOp .mul xT x y yT, ty, pos, af, g⟩ t (.int k r) :=
  p_int hx hy rfl fun w => by simp [binOp, Op.intArith, hr]
theorem p_quo (hx : aEv t x = some (.int k a)) (hy : aEv t y = some (.int k b)) (hb : b ≠ 0) (hr : k.wrap (a.tdiv b) = r) : PureOk P N ⟨d, .binOp .quo xT x y yT, ty, pos, af, g⟩ t (.int k r) :=
  p_int hx hy rfl fun w => by simp [binOp, Op.intDiv, hr, hb]
theorem p_rem (hx : aEv t x = some (.int k a)) (hy : aEv t y = some (.int k b)) (hb : b ≠ 0) (hr : a.tmod b = r) : PureOk P N ⟨d, .binOp .rem xT x y yT, ty, pos, af, g⟩ t (.int k r) :=
  p_int hx hy rfl fun w => by simp [binOp, Op.intDiv, hr, hb]
theorem p_lss (hx : aEv t x = some (.int k a)) (hy : aEv t y = some (.int k b)) : PureOk P N ⟨d, .binOp .lss xT x y yT, ty, pos, af, g⟩ t (.bool (decide (a < b))) :=
  p_int hx hy rfl fun w => by simp [binOp, Op.intCmp]
theorem p_leq (hx : aEv t x = some (.int k a)) (hy : aEv t y = some (.int k b)) : PureOk P N ⟨d, .binOp .leq xT x y yT, ty, pos, af, g⟩ t (.bool (decide (a ≤ b))) :=
  p_int hx hy rfl fun w => by simp [binOp, Op.intCmp]
theorem p_gtr (hx : aEv t x = some (.int k a)) (hy : aEv t y = some (.int k b)) : PureOk P N ⟨d, .binOp .gtr xT x y yT, ty, pos, af, g⟩ t (.bool (decide (b < a))) :=
  p_int hx hy rfl fun w => by simp [binOp, Op.intCmp]
theorem p_geq (hx : aEv t x = some (.int k a)) (hy : aEv t y = some (.int k b)) : PureOk P N ⟨d, .binOp .geq xT x y yT, ty, pos, af, g⟩ t (.bool (decide (b ≤ a))) :=
  p_int hx hy rfl fun w => by simp [binOp, Op.intCmp]
theorem p_eql (hx : aEv t x = some (.int k a)) (hy : aEv t y = some (.int k b)) : PureOk P N ⟨d, .binOp .eql xT x y yT, ty, pos, af, g⟩ t (.bool (decide (a = b))) :=
  p_int hx hy rfl fun w => by simp [binOp, Op.intCmp]; rfl
theorem p_neq (hx : aEv t x = some (.int k a)) (hy : aEv t y = some (.int k b)) : PureOk P N ⟨d, .binOp .neq xT x y yT, ty, pos, af, g⟩ t (.bool (!decide (a = b))) :=
  p_int hx hy rfl fun w => by simp [binOp, Op.intCmp]; rfl
theorem p_bits {op : BinOp} {v : Value} (hx : aEv t x = some (.int k a)) (hy : aEv t y = some (.int k b)) (hf : flat0 v = true) (hr : ∀ w, (Op.intBits op k a b).run P w = .ok v w) (ho : op = .and ∨ op = .or ∨ op = .xor ∨ op = .andNot) :
    PureOk P N ⟨d, .binOp op xT x y yT, ty, pos, af, g⟩ t v :=
  p_int hx hy hf fun w => by rcases ho with rfl | rfl | rfl | rfl <;> simpa [binOp] using hr w
theorem p_shr {j : IntKind} (hx : aEv t x = some (.int k a)) (hy : aEv t y = some (.int j b)) (hb : 0 ≤ b) (hr : a.fdiv (2 ^ (min b.toNat k.bits)) = r) : PureOk P N ⟨d, .binOp .shr xT x y yT, ty, pos, af, g⟩ t (.int k r) :=
  p_bin hx hy (.int _ _) (.int _ _) (.int _ _) fun w => by rw [Sem.run_bind, guard_int]; simp [binOp, Op.shift, hr, Int.not_lt.2 hb]
theorem equalIn_bool {xT : TypeId} (hT : P.underlying xT = some .bool) (e : Nat) (p q : Bool) (w : World) : (Op.equalIn (e + 1) xT (.bool p) (.bool q)).run P w = .ok (p == q) w := by
  simp [Op.equalIn, run_underlying hT]
theorem equal_bool {xT : TypeId} (hT : P.underlying xT = some .bool) (p q : Bool) (w : World) : (Op.equal xT (.bool p) (.bool q)).run P w = .ok (p == q) w :=
  equalIn_bool hT 9999 p q w
theorem p_beql {p q : Bool} (hT : P.underlying xT = some .bool) (hx : aEv t x = some (.bool p)) (hy : aEv t y = some (.bool q)) : PureOk P N ⟨d, .binOp .eql xT x y yT, ty, pos, af, g⟩ t (.bool (p == q)) :=
  p_bin hx hy (.bool _) (.bool _) (.bool _) fun w => by
    rw [Sem.run_bind, guard_bool]
    show (do pure (Value.bool (← Op.equal xT (.bool p) (.bool q))) : Sem Value).run P w = _
    rw [Sem.run_bind, equal_bool hT]; rfl
theorem p_not {xT : TypeId} {p : Bool} (hx : aEv t x = some (.bool p)) : PureOk P N ⟨d, .unOp .not xT x, ty, pos, af, g⟩ t (.bool (!p)) :=
  fun _ _ _ he => ⟨.bool (!p), by simp [execOp, ev_bool he hx, Op.unary], .bool _⟩
theorem p_conv {src dst : TypeId} {dS : TypeDesc} {j : IntKind} (hS : P.underlying src = some dS) (hD : P.underlying dst = some (.int j)) (hx : aEv t x = some (.int k a)) (hr : j.wrap a = r) :
    PureOk P N ⟨d, .convert src dst x, ty, pos, af, g⟩ t (.int j r) :=
  fun _ _ _ he => ⟨.int j r, by rw [← hr]; simp [execOp, ev_int he hx, convert, run_underlying hS, run_underlying hD, Conv.intToInt], .int _ _⟩
end pure
end Go.Proofs.YtdafmafigcljkaaGreat.Am
/-
  An abstract machine over this model's programs, third part: more operations that look at no memory: places, parts, slices of slices, lengths. No condition.
-/
namespace Go.Proofs.YtdafmafigcljkaaGreat.Am
open Go Go.RowKit
set_option linter.unusedVariables false
set_option linter.unusedSimpArgs false
theorem add_none (b o n : Nat) : (Addr.mk b o none).add n = ⟨b, o + n, none⟩ := by
  unfold Addr.add; split
  · rename_i h; subst h; rfl
  · rfl
theorem V.inv_ptr {φ : Phi} {i o : Nat} {v' : Value} (h : V φ (.pointer (some ⟨i, o, none⟩)) v') : ∃ L, φ i = some L ∧ v' = .pointer (some ⟨L.block, L.off + o, none⟩) := by
  cases h with | ptr _ _ L h => exact ⟨L, h, rfl⟩
theorem V.inv_slice {φ : Phi} {i o n c : Nat} {v' : Value} (h : V φ (.slice (some ⟨i, o, none⟩) n c) v') (hE : n ≠ 0 ∨ c ≠ capE) :
    ∃ L c', φ i = some L ∧ v' = .slice (some ⟨L.block, L.off + o, none⟩) n c' ∧ (c < capU → c' = c) ∧ (∀ m, c = capU + m → o + c' * m ≤ L.ext) ∧ n ≤ c' := by
  cases h with
  | slice _ _ _ _ L c' h hc hu hn => exact ⟨L, c', h, rfl, hc, hu, hn⟩
  | empty => exact absurd rfl (hE.resolve_left (fun h => h rfl))
theorem V.inv_nilSlice {φ : Phi} {v' : Value} {n c : Nat} (h : V φ (.slice none n c) v') : n = 0 ∧ c = 0 ∧ v' = .slice none 0 0 := by cases h; exact ⟨rfl, rfl, rfl⟩
theorem V.inv_tuple {φ : Phi} {cs : Array Value} {v' : Value} (h : V φ (.tuple cs) v') : ∃ cs', v' = .tuple cs' ∧ cs.size = cs'.size ∧ ∀ (i : Nat) v v', cs[i]? = some v → cs'[i]? = some v' → V φ v v' := by
  cases h with | tuple _ cs' h hc => exact ⟨cs', rfl, h, hc⟩
theorem V.inv_func {φ : Phi} {fn : Fn} {fs cs : Array Value} {v' : Value} (h : V φ (.func fn fs cs) v') : ∃ fs' cs', v' = .func fn fs' cs' ∧ fs.size = fs'.size ∧ cs.size = cs'.size ∧
    (∀ (i : Nat) v v', fs[i]? = some v → fs'[i]? = some v' → V φ v v') ∧ (∀ (i : Nat) v v', cs[i]? = some v → cs'[i]? = some v' → V φ v v') := by
  cases h with | func _ _ fs' _ cs' h1 h2 hf hc => exact ⟨fs', cs', rfl, h1, h2, hf, hc⟩
theorem get_pair {cs cs' : Array Value} (h : cs.size = cs'.size) {i : Nat} {v : Value} (e : cs[i]? = some v) : ∃ v', cs'[i]? = some v' := by
  have := (Array.getElem?_eq_some_iff.1 e).1
  exact ⟨cs'[i], Array.getElem?_eq_getElem (by omega)⟩
section pure
variable {P : Program} {N : Nat} {t : Env} {d : Option Tmp} {ty : TypeId} {pos : String} {af : Array Edge} {g : Option (Nat × Bool)}
theorem p_extract {x : Operand} {ix : Nat} {vs : Array Value} {v : Value} (hx : aEv t x = some (.tuple vs)) (hv : vs[ix]? = some v) : PureOk P N ⟨d, .extract x ix, ty, pos, af, g⟩ t v := by
  intro φ w a he
  obtain ⟨vs', e, hs, hc⟩ := (ev_ok he hx).inv_tuple
  obtain ⟨v', hv'⟩ := get_pair hs hv
  exact ⟨v', by simp [execOp, e, Instr.extract, hv'], hc _ _ _ hv hv'⟩
theorem p_nilCheck_ptr {x : Operand} {i o : Nat} (hx : aEv t x = some (.pointer (some ⟨i, o, none⟩))) : PureOk P N ⟨d, .nilCheck x, ty, pos, af, g⟩ t (.pointer (some ⟨i, o, none⟩)) := by
  intro φ w a he
  obtain ⟨L, h, e⟩ := (ev_ok he hx).inv_ptr
  exact ⟨_, by simp [execOp, e], .ptr i o L h⟩
theorem p_fieldAddr {s : TypeId} {x : Operand} {f : Nat} {fs : Array Field} {fd : Field} {i o m : Nat} (hx : aEv t x = some (.pointer (some ⟨i, o, none⟩)))
    (hs : P.underlying s = some (.struct fs)) (hf : fs[f]? = some fd) (hm : ∀ w, (sizeOf fd.type).run P w = .ok m w) (h0 : m ≠ 0) : PureOk P N ⟨d, .fieldAddr s x f, ty, pos, af, g⟩ t (.pointer (some ⟨i, o + fd.offset, none⟩)) := by
  intro φ w a he
  obtain ⟨L, h, e⟩ := (ev_ok he hx).inv_ptr
  refine ⟨.pointer (some ⟨L.block, L.off + (o + fd.offset), none⟩), ?_, .ptr i _ L h⟩
  simp [execOp, e, Instr.fieldAt, run_underlying hs, hf, Instr.sureAddr, fieldPlace, hm, h0, add_none, Nat.add_assoc]
theorem p_indexAddr {T : TypeId} {x y : Operand} {E : TypeId} {m : Nat} {k : IntKind} {n : Int} {i o len c : Nat} (hx : aEv t x = some (.slice (some ⟨i, o, none⟩) len c)) (hy : aEv t y = some (.int k n))
    (hT : P.underlying T = some (.slice E)) (hm : ∀ w, (sizeOf E).run P w = .ok m w) (h0 : 0 ≤ n) (h1 : n < len) : PureOk P N ⟨d, .indexAddr T x y, ty, pos, af, g⟩ t (.pointer (some ⟨i, o + n.toNat * m, none⟩)) := by
  intro φ w a he
  obtain ⟨L, c', h, e, _⟩ := (ev_ok he hx).inv_slice (.inl (by omega))
  refine ⟨.pointer (some ⟨L.block, L.off + (o + n.toNat * m), none⟩), ?_, .ptr i _ L h⟩
  simp [execOp, e, ev_int he hy, Instr.indexAt, asIntOf, run_underlying hT, h0, h1, hm, add_none, Nat.add_assoc]
theorem p_len_slice {T : TypeId} {x : Operand} {E : TypeId} {ad : Option Addr} {n c : Nat} (hx : aEv t x = some (.slice ad n c)) (hT : P.underlying T = some (.slice E)) :
    PureOk P N ⟨d, .call { callee := .builtin .len, args := #[x], argTypes := #[T] }, ty, pos, af, g⟩ t (.int .i64 n) := by
  intro φ w a he
  have h := ev_ok he hx
  have e : ∃ ad' c', a.eval x = .slice ad' n c' := by
    generalize a.eval x = u at h
    cases h
    · exact ⟨_, _, rfl⟩
    · exact ⟨_, _, rfl⟩
    · exact ⟨_, _, rfl⟩
  obtain ⟨ad', c', e⟩ := e
  exact ⟨.int .i64 n, by simp [execOp, resolve, invoke, builtin, Builtin.len_, e, run_underlying hT, goInt], .int _ _⟩
theorem p_min {T : Array TypeId} {x y : Operand} {k : IntKind} {a b r : Int} (hx : aEv t x = some (.int k a)) (hy : aEv t y = some (.int k b)) (hr : (if b < a then b else a) = r) :
    PureOk P N ⟨d, .call { callee := .builtin .min, args := #[x, y], argTypes := T }, ty, pos, af, g⟩ t (.int k r) := by
  intro φ w ac he
  exact ⟨.int k r, by rw [← hr]; simp [execOp, resolve, invoke, builtin, Builtin.min_, Builtin.min2, ev_int he hx, ev_int he hy], .int _ _⟩
theorem p_max {T : Array TypeId} {x y : Operand} {k : IntKind} {a b r : Int} (hx : aEv t x = some (.int k a)) (hy : aEv t y = some (.int k b)) (hr : (if b > a then b else a) = r) :
    PureOk P N ⟨d, .call { callee := .builtin .max, args := #[x, y], argTypes := T }, ty, pos, af, g⟩ t (.int k r) := by
  intro φ w ac he
  exact ⟨.int k r, by rw [← hr]; simp [execOp, resolve, invoke, builtin, Builtin.max_, Builtin.max2, ev_int he hx, ev_int he hy], .int _ _⟩
theorem p_slice {T : TypeId} {x : Operand} {lo hi : Option Operand} {E : TypeId} {m : Nat} {i o n c l h : Nat} {kl kh : IntKind} (hx : aEv t x = some (.slice (some ⟨i, o, none⟩) n c))
    (hlo : (lo = none ∧ l = 0) ∨ ∃ y, lo = some y ∧ aEv t y = some (.int kl l)) (hhi : (hi = none ∧ h = n) ∨ ∃ y, hi = some y ∧ aEv t y = some (.int kh h))
    (hT : P.underlying T = some (.slice E)) (hm : ∀ w, (sizeOf E).run P w = .ok m w) (h1 : l ≤ h) (h2 : h ≤ n) (h3 : l < n) (hcu : c < capU ∨ c = capU + m) :
    PureOk P N ⟨d, .slice T x lo hi none, ty, pos, af, g⟩ t (.slice (some ⟨i, o + l * m, none⟩) (h - l) (if c < capU then c - l else c)) := by
  intro φ w a he
  obtain ⟨L, c', hL, e, hc, hu, hn⟩ := (ev_ok he hx).inv_slice (.inl (by omega))
  have hne : ¬ (c' = l) := by omega
  refine ⟨.slice (some ⟨L.block, L.off + (o + l * m), none⟩) (h - l) (c' - l), ?_, .slice i (o + l * m) (h - l) _ L (c' - l) hL ?_ ?_ (by omega)⟩
  · have hb1 : h ≤ c' := by omega
    rcases hlo with ⟨rfl, rfl⟩ | ⟨y, rfl, hy⟩ <;> rcases hhi with ⟨rfl, rfl⟩ | ⟨z, rfl, hz⟩
    · simp [execOp, e, Instr.sliceAt, Instr.slice, run_underlying hT, Instr.sliceBounds, hm, add_none, hne, Nat.add_assoc]
    · simp [execOp, e, Instr.sliceAt, Instr.slice, run_underlying hT, Instr.sliceBounds, Instr.sliceBound, asIntOf, ev_int he hz, hm, add_none, hne, Int.ofNat_le.2 hb1, Nat.not_lt.2 hb1, Nat.add_assoc]
    · simp [execOp, e, Instr.sliceAt, Instr.slice, run_underlying hT, Instr.sliceBounds, Instr.sliceBound, asIntOf, ev_int he hy, hm, add_none, hne, Int.ofNat_le.2 h1, Nat.not_lt.2 h1, Nat.add_assoc]
    · simp [execOp, e, Instr.sliceAt, Instr.slice, run_underlying hT, Instr.sliceBounds, Instr.sliceBound, asIntOf, ev_int he hy, ev_int he hz, hm, add_none, hne, hb1, h1, Nat.add_assoc]
  · intro h'
    rcases hcu with hcu | hcu
    · rw [if_pos hcu, hc hcu]
    · rw [if_neg (by omega)] at h'; omega
  · intro m' h'
    rcases hcu with hcu | hcu
    · rw [if_pos hcu] at h'; omega
    · rw [if_neg (by omega)] at h'
      obtain rfl : m' = m := by omega
      have := hu m' hcu
      rw [Nat.sub_mul]
      have h4 : l * m' ≤ c' * m' := Nat.mul_le_mul_right _ (by omega)
      omega
theorem mapM_ok {x : List Operand} {vs : List Value} (h : x.map (aEv t) = vs.map some) {φ : Phi} {a : Act} (he : EnvR φ N t a) : ∀ (i : Nat) v v', vs[i]? = some v → (x.map a.eval)[i]? = some v' → V φ v v' := by
  intro i v v' e e'
  have h1 : (x.map (aEv t))[i]? = (vs.map some)[i]? := by rw [h]
  simp only [List.getElem?_map] at h1 e'
  rw [e] at h1
  cases hx : x[i]? with
  | none => rw [hx] at h1; cases h1
  | some y =>
    rw [hx] at h1 e'
    obtain rfl := Option.some.inj e'
    exact ev_ok he (Option.some.inj h1)
theorem mapM_len {x : List Operand} {vs : List Value} (h : x.map (aEv t) = vs.map some) : vs.length = x.length := by
  have := congrArg List.length h; simpa using this.symm
theorem p_makeFunc {fn : Fn} {first captured : List Operand} {fs cs : List Value} (hf : first.map (aEv t) = fs.map some) (hc : captured.map (aEv t) = cs.map some) :
    PureOk P N ⟨d, .makeFunc fn first.toArray captured.toArray, ty, pos, af, g⟩ t (.func fn fs.toArray cs.toArray) := by
  intro φ w a he
  refine ⟨.func fn (first.map a.eval).toArray (captured.map a.eval).toArray, by simp [execOp, Instr.makeFunc], .func fn _ _ _ _ (by simp [mapM_len hf]) (by simp [mapM_len hc]) ?_ ?_⟩
  · intro i v v' e e'; exact mapM_ok hf he i v v' (by simpa using e) (by simpa using e')
  · intro i v v' e e'; exact mapM_ok hc he i v v' (by simpa using e) (by simpa using e')
end pure
end Go.Proofs.YtdafmafigcljkaaGreat.Am
/-
  An abstract machine over this model's programs, fourth part: memory that is written, moved, forgotten. No condition.
-/
namespace Go.Proofs.YtdafmafigcljkaaGreat.Am
open Go Go.RowKit
set_option linter.unusedVariables false
set_option linter.unusedSimpArgs false
structure Wrote (w w' : World) (b lo hi : Nat) : Prop where
  cell : ∀ b' o, ¬ (b' = b ∧ lo ≤ o ∧ o < hi) → w'.cell? ⟨b', o, none⟩ = w.cell? ⟨b', o, none⟩
  there : ∀ o, lo ≤ o → o < hi → ∃ u, w'.cell? ⟨b, o, none⟩ = some u
  frozen : ∀ b' o, w'.frozen? ⟨b', o, none⟩ = w.frozen? ⟨b', o, none⟩
  size : w'.heap.size = w.heap.size
  maps : ∀ (b' : Nat) es c, w.heap[b']? = some (.map es c) → w'.heap[b']? = some (.map es c)
  below : ∀ B W, B ≤ b → Below B W w → Below B W w'
theorem map_setCell {w : World} {b : Nat} {es : Array MapEntry} {c : Nat} (h : w.heap[b]? = some (.map es c)) (a : Addr) (v : Value) : (w.setCell a v).heap[b]? = some (.map es c) := by
  simp only [World.setCell, Array.getElem?_modify]
  split
  · rw [h]; rfl
  · exact h
theorem Wrote.nil (w : World) (b lo : Nat) : Wrote w w b lo lo :=
  ⟨fun _ _ _ => rfl, fun o h1 h2 => by omega, fun _ _ => rfl, rfl, fun _ _ _ h => h, fun _ _ _ h => h⟩
theorem storeCells_run {P : Program} (b q : Nat) : ∀ (vs : List Value) (i : Nat) (w : World), (∀ v ∈ vs, oneCell v = true) →
    (∀ j, j < vs.length → (∃ u, w.cell? ⟨b, q + (i + j), none⟩ = some u) ∧ w.frozen? ⟨b, q + (i + j), none⟩ = false) →
    ∃ w', (storeCells ⟨b, q, none⟩ vs i).run P w = .ok () w' ∧ Wrote w w' b (q + i) (q + i + vs.length) ∧ ∀ j v, vs[j]? = some v → w'.cell? ⟨b, q + (i + j), none⟩ = some v
  | [], i, w, _, _ => ⟨w, rfl, by simpa using Wrote.nil w b (q + i), fun j v h => by simp at h⟩
  | v :: rest, i, w, h1, h2 => by
    obtain ⟨⟨u, hu⟩, hf⟩ := h2 0 (by simp)
    simp only [Nat.add_zero] at hu hf
    have hst : (store ((⟨b, q, none⟩ : Addr).add i) v).run P w = .ok () (w.setCell ⟨b, q + i, none⟩ v) := by
      rw [add_none, run_store _ _ _ _ _ ((oneCell_eq v).trans (h1 v (by simp))), hu]
      simp [hf]
    have hother : ∀ b' o, ¬ (b' = b ∧ o = q + i) → (w.setCell ⟨b, q + i, none⟩ v).cell? ⟨b', o, none⟩ = w.cell? ⟨b', o, none⟩ := fun b' o hne =>
      World.cell?_setCell_other _ _ _ _ (fun he => hne (by cases he; exact ⟨rfl, rfl⟩))
    obtain ⟨w', hr, hw, hc⟩ := storeCells_run (P := P) b q rest (i + 1) (w.setCell ⟨b, q + i, none⟩ v) (fun u hu => h1 u (by simp [hu])) (fun j hj => by
      have := h2 (j + 1) (by simp; omega)
      rw [hother b _ (by omega), World.frozen?_setCell, show q + (i + 1 + j) = q + (i + (j + 1)) by omega]
      exact this)
    have hself : w'.cell? ⟨b, q + i, none⟩ = some v := by
      rw [hw.cell b (q + i) (by omega)]
      exact World.cell?_setCell_same _ _ _ hu
    refine ⟨w', ?_, ⟨?_, ?_, ?_, ?_, ?_, ?_⟩, ?_⟩
    · simp only [storeCells, Sem.run_bind, hst, Result.andThen_ok, hr]
    · intro b' o hne
      simp only [List.length_cons] at hne
      rw [hw.cell b' o (by omega), hother b' o (by omega)]
    · intro o ho1 ho2
      simp only [List.length_cons] at ho2
      by_cases he : o = q + i
      · subst he; exact ⟨v, hself⟩
      · exact hw.there o (by omega) (by omega)
    · intro b' o; rw [hw.frozen, World.frozen?_setCell]
    · rw [hw.size]; simp
    · intro b' es c h; exact hw.maps b' es c (map_setCell h _ _)
    · intro B W hB hb; exact hw.below B W hB (hb.setCell hB v)
    · intro j u hj
      cases j with
      | zero => simp at hj; subst hj; exact hself
      | succ j =>
        simp at hj
        rw [show q + (i + (j + 1)) = q + (i + 1 + j) by omega]
        exact hc j u hj
theorem rewrite_ok {W : World} {φ : Phi} {H : AHeap} {w w' : World} {i : Nat} {L : Loc} {cs cs2 : List Value} {lo hi : Nat} (hs : Sim W φ H w) (hL : φ i = some L) (hi0 : hget H i = .row false cs)
    (hw : Wrote w w' L.block lo hi) (h1 : L.off ≤ lo) (h2 : hi ≤ L.off + L.ext) (hfit : cs2.length ≤ L.ext)
    (hreads : ∀ (j : Nat) c, cs2[j]? = some c → ∃ c', w'.cell? ⟨L.block, L.off + j, none⟩ = some c' ∧ V φ c c') :
    Sim W φ (H.set i (.row false cs2)) w' ∧ Step φ H w φ (H.set i (.row false cs2)) w' := by
  have hlt := hs.dom i L hL
  have hobj := hs.obj i L hL
  rw [hi0] at hobj
  have hB := (hobj.own rfl).1
  have hrow : (hget H i).isRow = true := by rw [hi0]; rfl
  have hsame : hget (H.set i (.row false cs2)) i = .row false cs2 := hget_set_same _ hlt
  have hmm : ∀ j, (hget (H.set i (.row false cs2)) j).isMap = (hget H j).isMap := fun j => by
    by_cases hj : i = j
    · subst hj; rw [hsame, hi0]; rfl
    · rw [hget_set_other _ hj]
  have hrr : ∀ j, (hget (H.set i (.row false cs2)) j).isRow = (hget H j).isRow := fun j => by
    by_cases hj : i = j
    · subst hj; rw [hsame, hi0]; rfl
    · rw [hget_set_other _ hj]
  refine ⟨⟨fun j M e => by simpa using hs.dom j M e, ?_, fun j k M K hjk ej ek hj hk => hs.disj j k M K hjk ej ek (by rw [← hrr]; exact hj) (by rw [← hrr]; exact hk), fun j k M K hjk ej ek hj hk => hs.mdisj j k M K hjk ej ek (by rw [← hmm]; exact hj) (by rw [← hmm]; exact hk), ⟨hw.below _ _ hB hs.base.below, hs.base.ok⟩⟩, ⟨fun _ _ => rfl, by simp, by rw [hw.size]; omega, ?_, fun b o _ _ => hw.frozen b o, ?_⟩⟩
  · intro j M e
    by_cases hj : i = j
    · subst hj
      rw [hL] at e
      obtain rfl := Option.some.inj e
      rw [hsame]
      refine ⟨hfit, hreads, (by intro h; cases h), fun _ => ⟨hB, by rw [hw.size]; exact (hobj.own rfl).2⟩, fun _ k hk => ?_⟩
      rw [hw.frozen]
      refine ⟨?_, (hobj.there rfl k hk).2⟩
      by_cases hin : lo ≤ L.off + k ∧ L.off + k < hi
      · exact hw.there _ hin.1 hin.2
      · rw [hw.cell _ _ (by omega)]; exact (hobj.there rfl k hk).1
    · rw [hget_set_other _ hj]
      have hoj := hs.obj j M e
      cases ho : hget H j with
      | dead => trivial
      | row ro cells =>
        rw [ho] at hoj
        have hne : ∀ k, k < M.ext → ¬ (M.block = L.block ∧ lo ≤ M.off + k ∧ M.off + k < hi) := by
          intro k hk
          cases ro with
          | true => have := hoj.old rfl; omega
          | false =>
            have := hs.disj i j L M hj hL e hrow (by rw [ho]; rfl)
            unfold Apart at this
            omega
        refine ⟨hoj.fits, fun k c hc => ?_, hoj.old, fun hr => ⟨(hoj.own hr).1, by rw [hw.size]; exact (hoj.own hr).2⟩, fun hr k hk => ?_⟩
        · have hk : k < M.ext := by have := (List.getElem?_eq_some_iff.1 hc).1; have := hoj.fits; omega
          rw [hw.cell _ _ (hne k hk)]; exact hoj.reads k c hc
        · rw [hw.frozen, hw.cell _ _ (hne k hk)]; exact hoj.there hr k hk
      | map es =>
        rw [ho] at hoj
        exact ⟨hoj.off, hoj.ext, ⟨hoj.own.1, by rw [hw.size]; exact hoj.own.2⟩, hoj.flat, hw.maps _ _ _ hoj.holds⟩
  · intro b o hb hn
    refine hw.cell b o fun h => hn ⟨i, L, hL, hrow, h.1.symm, by omega, by omega⟩
  · rintro b o hb ⟨j, M, e, hr, r⟩
    exact ⟨j, M, e, by rw [← hrr]; exact hr, r⟩
def setMany : List Value → Nat → List Value → List Value
  | cs, _, [] => cs
  | cs, k, v :: vs => setMany (cs.set k v) (k + 1) vs
theorem setMany_length (vs : List Value) : ∀ (cs : List Value) (k : Nat), (setMany cs k vs).length = cs.length := by
  induction vs with
  | nil => intro cs k; rfl
  | cons v vs ih => intro cs k; simp [setMany, ih]
theorem setMany_lt (vs : List Value) : ∀ (cs : List Value) (k j : Nat), j < k → (setMany cs k vs)[j]? = cs[j]? := by
  induction vs with
  | nil => intro cs k j _; rfl
  | cons v vs ih => intro cs k j h; simp only [setMany]; rw [ih _ _ _ (by omega), List.getElem?_set_ne (by omega)]
theorem setMany_ge (vs : List Value) : ∀ (cs : List Value) (k j : Nat), k + vs.length ≤ j → (setMany cs k vs)[j]? = cs[j]? := by
  induction vs with
  | nil => intro cs k j _; rfl
  | cons v vs ih => intro cs k j h; simp only [List.length_cons] at h; simp only [setMany]; rw [ih _ _ _ (by omega), List.getElem?_set_ne (by omega)]
theorem setMany_in (vs : List Value) : ∀ (cs : List Value) (k j : Nat), k + j < cs.length → j < vs.length → (setMany cs k vs)[k + j]? = vs[j]? := by
  induction vs with
  | nil => intro cs k j _ h; simp at h
  | cons v vs ih =>
    intro cs k j h1 h2
    simp only [setMany]
    cases j with
    | zero => rw [Nat.add_zero, setMany_lt _ _ _ _ (by omega)]; simp [show k < cs.length by omega]
    | succ j => rw [show k + (j + 1) = k + 1 + j by omega, ih _ _ _ (by simp only [List.length_set]; omega) (by simpa using h2)]; simp
theorem store_ok {P : Program} {W : World} {φ : Phi} {H : AHeap} {w : World} {i o : Nat} {L : Loc} {cs vs vs' : List Value} (hs : Sim W φ H w) (hL : φ i = some L) (hi0 : hget H i = .row false cs)
    (hfit : o + vs.length ≤ cs.length) (hlen : vs'.length = vs.length) (hV : ∀ (j : Nat) v v', vs[j]? = some v → vs'[j]? = some v' → V φ v v') (h1 : ∀ v ∈ vs, oneCell v = true) :
    ∃ w', (storeCells ⟨L.block, L.off + o, none⟩ vs' 0).run P w = .ok () w' ∧ Sim W φ (H.set i (.row false (setMany cs o vs))) w' ∧ Step φ H w φ (H.set i (.row false (setMany cs o vs))) w' := by
  have hobj := hs.obj i L hL
  rw [hi0] at hobj
  have hext := hobj.fits
  have h1' : ∀ v ∈ vs', oneCell v = true := by
    intro v' hv'
    obtain ⟨j, hj, e⟩ := List.getElem_of_mem hv'
    have hj2 : j < vs.length := by omega
    have := hV j _ _ (List.getElem?_eq_getElem hj2) (List.getElem?_eq_getElem hj)
    rw [e] at this
    rw [this.oneCell]; exact h1 _ (List.getElem_mem hj2)
  obtain ⟨w', hr, hw, hc⟩ := storeCells_run (P := P) L.block (L.off + o) vs' 0 w h1' (fun j hj => by
    have := hobj.there rfl (o + j) (by omega)
    rw [show L.off + o + (0 + j) = L.off + (o + j) by omega]; exact this)
  rw [Nat.add_zero] at hw
  refine ⟨w', hr, rewrite_ok hs hL hi0 hw (by omega) (by omega) (by rw [setMany_length]; omega) ?_⟩
  intro j c hj
  rcases Nat.lt_or_ge j o with h | h
  · rw [setMany_lt _ _ _ _ h] at hj
    rw [hw.cell _ _ (by omega)]; exact hobj.reads j c hj
  · rcases Nat.lt_or_ge j (o + vs.length) with h' | h'
    · have hk : j = o + (j - o) := by omega
      rw [hk, setMany_in _ _ _ _ (by omega) (by omega)] at hj
      have hk' : j - o < vs'.length := by omega
      refine ⟨vs'[j - o], ?_, hV _ _ _ hj (List.getElem?_eq_getElem hk')⟩
      have := hc (j - o) _ (List.getElem?_eq_getElem hk')
      rw [show L.off + o + (0 + (j - o)) = L.off + j by omega] at this
      exact this
    · rw [setMany_ge _ _ _ _ h'] at hj
      rw [hw.cell _ _ (by omega)]; exact hobj.reads j c hj
theorem kill_ok {W : World} {φ : Phi} {H : AHeap} {w : World} (i : Nat) (hs : Sim W φ H w) : Sim W φ (H.set i .dead) w ∧ Step φ H w φ (H.set i .dead) w := by
  have key : ∀ j, hget (H.set i .dead) j = .dead ∨ hget (H.set i .dead) j = hget H j := fun j => by
    by_cases hj : i = j
    · subst hj
      rcases Nat.lt_or_ge i H.length with h | h
      · exact .inl (hget_set_same _ h)
      · exact .inl (hget_ge (by simpa using h))
    · exact .inr (hget_set_other _ hj)
  have mine : ∀ j, (hget (H.set i .dead) j).isRow = true → (hget H j).isRow = true := fun j h => by
    rcases key j with e | e
    · rw [e] at h; cases h
    · rw [← e]; exact h
  have mmine : ∀ j, (hget (H.set i .dead) j).isMap = true → (hget H j).isMap = true := fun j h => by
    rcases key j with e | e
    · rw [e] at h; cases h
    · rw [← e]; exact h
  refine ⟨⟨fun j M e => by simpa using hs.dom j M e, ?_, fun j k M K hjk ej ek hj hk => hs.disj j k M K hjk ej ek (mine j hj) (mine k hk), fun j k M K hjk ej ek hj hk => hs.mdisj j k M K hjk ej ek (mmine j hj) (mmine k hk), hs.base⟩, ⟨fun _ _ => rfl, by simp, Nat.le_refl _, fun _ _ _ _ => rfl, fun _ _ _ _ => rfl, ?_⟩⟩
  · intro j M e
    rcases key j with h | h
    · rw [h]; trivial
    · rw [h]; exact hs.obj j M e
  · rintro b o hb ⟨j, M, e, hr, r⟩
    refine ⟨j, M, e, ?_, r⟩
    rcases key j with h | h
    · rw [h] at hr; cases hr
    · rw [← h]; exact hr
theorem move_ok {W : World} {φ : Phi} {H : AHeap} {w : World} {i o : Nat} {L : Loc} {cs cs2 : List Value} (hs : Sim W φ H w) (hL : φ i = some L) (hi0 : hget H i = .row false cs)
    (ho : o + cs2.length ≤ L.ext) (hreads : ∀ (j : Nat) c, cs2[j]? = some c → ∃ c', w.cell? ⟨L.block, L.off + o + j, none⟩ = some c' ∧ V φ c c') :
    ∃ φ', Sim W φ' (H.set i .dead ++ [.row false cs2]) w ∧ Step φ H w φ' (H.set i .dead ++ [.row false cs2]) w ∧ φ' H.length = some ⟨L.block, L.off + o, L.ext - o⟩ ∧ ∀ i L, φ i = some L → φ' i = some L := by
  have hlt := hs.dom i L hL
  have hobj := hs.obj i L hL
  rw [hi0] at hobj
  have hrow : (hget H i).isRow = true := by rw [hi0]; rfl
  obtain ⟨ks, kst⟩ := kill_ok i hs
  have hlen : (H.set i AObj.dead).length = H.length := by simp
  have hfresh : φ H.length = none := by
    cases e : φ H.length with
    | none => rfl
    | some L => exact absurd (hs.dom _ _ e) (Nat.lt_irrefl _)
  let φ' : Phi := fun j => if j = H.length then some ⟨L.block, L.off + o, L.ext - o⟩ else φ j
  have hm : ∀ j M, φ j = some M → φ' j = some M := fun j M e => by
    have : j ≠ H.length := fun he => by rw [he, hfresh] at e; cases e
    simp [φ', this, e]
  have hnew : φ' H.length = some ⟨L.block, L.off + o, L.ext - o⟩ := by simp [φ']
  have hother : ∀ j, j ≠ H.length → φ' j = φ j := fun j hj => by simp [φ', hj]
  have hgn : hget (H.set i AObj.dead ++ [AObj.row false cs2]) H.length = .row false cs2 := by rw [← hlen]; exact hget_len _ _
  have hgo : ∀ j, j < H.length → hget (H.set i AObj.dead ++ [AObj.row false cs2]) j = hget (H.set i AObj.dead) j := fun j hj => hget_append_lt (by rw [hlen]; exact hj)
  have hal : ∀ j M, φ j = some M → (hget (H.set i AObj.dead) j).isRow = true → Apart ⟨L.block, L.off + o, L.ext - o⟩ M := by
    intro j M e hj
    have hji : i ≠ j := fun he => by subst he; rw [hget_set_same _ hlt] at hj; cases hj
    rw [hget_set_other _ hji] at hj
    have := hs.disj i j L M hji hL e hrow hj
    unfold Apart at *
    dsimp only
    omega
  refine ⟨φ', ⟨?_, ?_, ?_, ?_, hs.base⟩, ⟨fun j hj => hother j (Nat.ne_of_lt hj), by simp, Nat.le_refl _, fun _ _ _ _ => rfl, fun _ _ _ _ => rfl, ?_⟩, hnew, hm⟩
  · intro j M e
    by_cases hj : j = H.length
    · subst hj; simp
    · rw [hother j hj] at e; have := hs.dom j M e; simp; omega
  · intro j M e
    by_cases hj : j = H.length
    · subst hj
      rw [hnew] at e; obtain rfl := Option.some.inj e
      rw [hgn]
      refine ⟨by dsimp only; omega, fun k c hk => ?_, (by intro h; cases h), fun _ => hobj.own rfl, fun _ k hk => ?_⟩
      · obtain ⟨c', e1, e2⟩ := hreads k c hk; exact ⟨c', e1, e2.mono hm⟩
      · dsimp only at hk ⊢
        rw [Nat.add_assoc]; exact hobj.there rfl (o + k) (by omega)
    · rw [hother j hj] at e
      have hlj := hs.dom j M e
      rw [hgo j hlj]
      have hoj := ks.obj j M e
      cases hoo : hget (H.set i AObj.dead) j with
      | dead => trivial
      | row ro cells =>
        rw [hoo] at hoj
        exact ⟨hoj.fits, fun k c hc => let ⟨c', e1, e2⟩ := hoj.reads k c hc; ⟨c', e1, e2.mono hm⟩, hoj.old, hoj.own, hoj.there⟩
      | map es => rw [hoo] at hoj; exact hoj
  · intro j k M K hjk ej ek hj hk
    by_cases h1 : j = H.length
    · subst h1
      rw [hnew] at ej; obtain rfl := Option.some.inj ej
      have h2 : k ≠ H.length := fun h => hjk h.symm
      rw [hother k h2] at ek
      rw [hgo k (hs.dom k K ek)] at hk
      exact hal k K ek hk
    · by_cases h2 : k = H.length
      · subst h2
        rw [hnew] at ek; obtain rfl := Option.some.inj ek
        rw [hother j h1] at ej
        rw [hgo j (hs.dom j M ej)] at hj
        exact (hal j M ej hj).symm
      · rw [hother j h1] at ej; rw [hother k h2] at ek
        rw [hgo j (hs.dom j M ej)] at hj; rw [hgo k (hs.dom k K ek)] at hk
        exact ks.disj j k M K hjk ej ek hj hk
  · intro j k M K hjk ej ek hj hk
    have h1 : j ≠ H.length := fun h => by subst h; rw [hgn] at hj; cases hj
    have h2 : k ≠ H.length := fun h => by subst h; rw [hgn] at hk; cases hk
    rw [hother j h1] at ej; rw [hother k h2] at ek
    rw [hgo j (hs.dom j M ej)] at hj; rw [hgo k (hs.dom k K ek)] at hk
    exact ks.mdisj j k M K hjk ej ek hj hk
  · rintro b p hb ⟨j, M, e, hr, r1, r2, r3⟩
    by_cases hj : j = H.length
    · subst hj
      rw [hnew] at e; obtain rfl := Option.some.inj e
      dsimp only at r1 r2 r3
      exact ⟨i, L, hL, hrow, r1, by omega, by omega⟩
    · rw [hother j hj] at e
      rw [hgo j (hs.dom j M e)] at hr
      exact kst.own b p hb ⟨j, M, e, hr, r1, r2, r3⟩
end Go.Proofs.YtdafmafigcljkaaGreat.Am
/-
  An abstract machine over this model's programs, fifth part: the operations that read, write or make memory. No condition.
-/
namespace Go.Proofs.YtdafmafigcljkaaGreat.Am
open Go Go.RowKit
set_option linter.unusedVariables false
set_option linter.unusedSimpArgs false
def hcell (H : AHeap) (i o : Nat) : Option Value :=
  match hget H i with
  | .row _ cs => cs[o]?
  | _ => none
theorem cell_ok {W : World} {φ : Phi} {H : AHeap} {w : World} (hs : Sim W φ H w) {i o : Nat} {L : Loc} {v : Value} (hL : φ i = some L) (hc : hcell H i o = some v) :
    ∃ v', w.cell? ⟨L.block, L.off + o, none⟩ = some v' ∧ V φ v v' := by
  have := hs.obj i L hL
  unfold hcell at hc
  cases ho : hget H i with
  | dead => rw [ho] at hc; cases hc
  | row ro cs => rw [ho] at hc this; exact this.reads o v hc
  | map es => rw [ho] at hc; cases hc
theorem cells_at {W : World} {φ : Phi} {H : AHeap} {w : World} (hs : Sim W φ H w) {i o : Nat} {L : Loc} {vs : List Value} (hL : φ i = some L)
    (hc : ∀ (j : Nat) v, vs[j]? = some v → hcell H i (o + j) = some v) :
    ∃ vs' : List Value, (∀ (j : Nat) v', vs'[j]? = some v' → w.cell? ⟨L.block, L.off + o + j, none⟩ = some v') ∧ vs'.length = vs.length ∧ ∀ (j : Nat) v v', vs[j]? = some v → vs'[j]? = some v' → V φ v v' := by
  have h1 : ∀ (j : Nat), j < vs.length → ∃ v', w.cell? ⟨L.block, L.off + o + j, none⟩ = some v' ∧ ∀ v, vs[j]? = some v → V φ v v' := fun j hj => by
    have e := List.getElem?_eq_getElem hj
    obtain ⟨v', h2, h3⟩ := cell_ok hs hL (hc j _ e)
    exact ⟨v', by rw [Nat.add_assoc]; exact h2, fun v hv => by rw [e] at hv; obtain rfl := Option.some.inj hv; exact h3⟩
  let f : Nat → Value := fun j => (w.cell? ⟨L.block, L.off + o + j, none⟩).getD undef
  refine ⟨(List.range vs.length).map f, ?_, by simp, ?_⟩
  · intro j v' e
    have hj : j < vs.length := by have := (List.getElem?_eq_some_iff.1 e).1; simpa using this
    obtain ⟨u, h2, _⟩ := h1 j hj
    simp [List.getElem?_map, List.getElem?_range hj, f, h2] at e
    rw [h2, e]
  · intro j v v' e e'
    have hj := (List.getElem?_eq_some_iff.1 e).1
    obtain ⟨u, h2, h3⟩ := h1 j hj
    simp [List.getElem?_map, List.getElem?_range hj, f, h2] at e'
    subst e'
    exact h3 v e
theorem run_cells {P : Program} {w : World} {b q : Nat} {vs' : List Value} (h : ∀ (j : Nat) v', vs'[j]? = some v' → w.cell? ⟨b, q + j, none⟩ = some v') :
    (loadCells ⟨b, q, none⟩ vs'.length).run P w = .ok vs'.toArray w :=
  run_loadCells_list w ⟨b, q, none⟩ vs' (fun j v e => by rw [add_none]; exact h j v e)
section mem
variable {P : Program} {N : Nat} {t : Env} {H : AHeap} {d : Option Tmp} {ty : TypeId} {pos : String} {af : Array Edge} {g : Option (Nat × Bool)}
theorem m_load {T : TypeId} {x : Operand} {i o : Nat} {v : Value} (hx : aEv t x = some (.pointer (some ⟨i, o, none⟩))) (hT : ∀ w, (isAgg T).run P w = .ok false w) (hc : hcell H i o = some v) :
    OpOk P N ⟨d, .load T x, ty, pos, af, g⟩ t H v H := by
  intro W φ w a hs he
  obtain ⟨L, hL, e⟩ := (ev_ok he hx).inv_ptr
  obtain ⟨v', h1, h2⟩ := cell_ok hs hL hc
  refine Does.of_value (v := v') (w' := w) ?_ ⟨φ, hs, h2, Step.refl _ _ _⟩
  simp [execOp, e, Instr.loadAt, Instr.sureAddr, loadVar, hT, h1]
theorem m_store {T : TypeId} {x y : Operand} {i o : Nat} {v : Value} {cs : List Value} (hx : aEv t x = some (.pointer (some ⟨i, o, none⟩))) (hy : aEv t y = some v) (hv : oneCell v = true)
    (hn : ∀ w, (sizeOf T).run P w = .ok 1 w) (hg : hget H i = .row false cs) (ho : o < cs.length) :
    OpOk P N ⟨d, .store T x y, ty, pos, af, g⟩ t H undef (H.set i (.row false (cs.set o v))) := by
  intro W φ w a hs he
  obtain ⟨L, hL, e⟩ := (ev_ok he hx).inv_ptr
  have hV := ev_ok he hy
  obtain ⟨w', hr, h1, h2⟩ := store_ok (P := P) (o := o) (vs := [v]) (vs' := [a.eval y]) hs hL hg (by simp; omega) rfl
    (fun j u u' e1 e2 => by cases j with | zero => simp at e1 e2; subst e1; subst e2; exact hV | succ j => simp at e1) (by simpa using hv)
  refine Does.of_skip (w' := w') ?_ ⟨φ, h1, V.flat (.tuple _ (fun i v h => by simp at h)), h2⟩
  have hc : (a.eval y).cells = #[a.eval y] := by
    have := hV.oneCell; rw [hv] at this
    generalize a.eval y = u at this
    cases u <;> first | rfl | cases this
  simp [execOp, e, Instr.storeAt, Instr.sureAddr, storeVar, hn, hc, hr]
theorem cells_of_V {φ : Phi} {v v' : Value} (h : V φ v v') : v.cells.size = v'.cells.size ∧ ∀ (j : Nat) c c', v.cells[j]? = some c → v'.cells[j]? = some c' → V φ c c' := by
  cases h with
  | agg cs cs' h hc => exact ⟨h, hc⟩
  | _ =>
    refine ⟨rfl, fun j c c' e e' => ?_⟩
    cases j with
    | zero => simp [Value.cells] at e e'; subst e; subst e'; constructor <;> assumption
    | succ j => simp [Value.cells] at e
theorem m_box {E : TypeId} {x : Operand} {v : Value} (hx : aEv t x = some v) :
    OpOk P N ⟨d, .box E x, ty, pos, af, g⟩ t H (.pointer (some ⟨H.length, 0, none⟩)) (H ++ [.row false v.cells.toList]) := by
  intro W φ w a hs he
  obtain ⟨h1, h2⟩ := cells_of_V (ev_ok he hx)
  obtain ⟨φ', k1, k2, k3, k4⟩ := alloc_ok hs v.cells.toList (a.eval x).cells E (by simp; omega) (fun j c c' e e' => h2 j c c' (by simpa using e) e')
  refine Does.of_value (v := .pointer (some ⟨w.heap.size, 0, none⟩)) (w' := w.alloc (.cells (a.eval x).cells E)) ?_ ⟨φ', k1, ?_, k2⟩
  · simp [execOp, Instr.box, newVar, newRow]
  · exact .ptr H.length 0 ⟨w.heap.size, 0, _⟩ k3
theorem m_alloc {E : TypeId} {z : Value} (hz : ∀ w, (zeroValue E).run P w = .ok z w) (hf : ∀ c ∈ z.cells.toList, flat0 c = true) :
    OpOk P N ⟨d, .alloc E, ty, pos, af, g⟩ t H (.pointer (some ⟨H.length, 0, none⟩)) (H ++ [.row false z.cells.toList]) := by
  intro W φ w a hs he
  obtain ⟨φ', k1, k2, k3, k4⟩ := alloc_ok hs z.cells.toList z.cells E (by simp) (fun j c c' e e' => by
    have e2 : z.cells[j]? = some c := by simpa using e
    rw [e2] at e'; obtain rfl := Option.some.inj e'
    exact flatV (hf c (by simpa using Array.mem_of_getElem? e2)))
  refine Does.of_value (v := .pointer (some ⟨w.heap.size, 0, none⟩)) (w' := w.alloc (.cells z.cells E)) ?_ ⟨φ', k1, ?_, k2⟩
  · simp [execOp, Instr.alloc, newVar, newRow, hz]
  · exact .ptr H.length 0 ⟨w.heap.size, 0, _⟩ k3
theorem m_makeSlice {T E : TypeId} {x y : Operand} {k j : IntKind} {n c m by_ : Nat} {z : Value} {ti : TypeInfo} (hx : aEv t x = some (.int k n)) (hy : aEv t y = some (.int j c)) (hT : P.underlying T = some (.slice E))
    (hi : ∀ w, (typeInfo E).run P w = .ok ti w) (hm : ∀ w, (sizeOf E).run P w = .ok m w) (hz : ∀ w, (zeroValue E).run P w = .ok z w) (hf : ∀ c ∈ z.cells.toList, flat0 c = true) (hzm : z.cells.size = m)
    (hb : ti.bytes = by_) (hnc : n ≤ c) (hsz : c * by_ ≤ 281474976710656) (hc : c < 9223372036854775808) (hm0 : 0 < m) :
    OpOk P N ⟨d, .makeSlice T x y, ty, pos, af, g⟩ t H (.slice (some ⟨H.length, 0, none⟩) n c) (H ++ [.row false ((List.replicate c z.cells.toList).flatten)]) := by
  intro W φ w a hs he
  have hflat : ((List.replicate c z.cells.toList).flatten) = ((Array.range (c * m)).map (fun i => z.cells[i % z.cells.size]!)).toList := by
    have hl : z.cells.toList.length = m := by simp [hzm]
    apply List.ext_getElem?
    intro i
    rcases Nat.lt_or_ge i (c * m) with h | h
    · have hdm : i / m < c := Nat.div_lt_of_lt_mul (by rw [Nat.mul_comm]; exact h)
      have hmod : i % m < m := Nat.mod_lt _ hm0
      have key : ∀ (c i : Nat), i < c * m → ((List.replicate c z.cells.toList).flatten)[i]? = z.cells.toList[i % m]? := by
        intro c
        induction c with
        | zero => intro i hi; simp at hi
        | succ c ih =>
          intro i hi
          rw [List.replicate_succ, List.flatten_cons]
          rcases Nat.lt_or_ge i m with h' | h'
          · rw [List.getElem?_append_left (by omega), Nat.mod_eq_of_lt h']
          · rw [List.getElem?_append_right (by omega), hl, ih _ (by rw [Nat.succ_mul] at hi; omega), Nat.mod_eq_sub_mod h']
      rw [key c i h]
      have : (z.cells.toList)[i % m]? = some (z.cells[i % m]'(by omega)) := by simp [hzm, hmod]
      rw [this]
      simp [h, hzm, hmod]
    · have h1 : ((List.replicate c z.cells.toList).flatten).length = c * m := by simp [hzm]
      rw [List.getElem?_eq_none (by omega)]
      simp [h]
  have hq : ∀ x ∈ ((List.replicate c z.cells.toList).flatten), flat0 x = true := by
    intro x hx
    obtain ⟨l, hl, hxl⟩ := List.mem_flatten.1 hx
    rw [List.mem_replicate] at hl
    rw [hl.2] at hxl
    exact hf x hxl
  obtain ⟨φ', k1, k2, k3, k4⟩ := alloc_ok hs ((List.replicate c z.cells.toList).flatten) ((Array.range (c * m)).map (fun i => z.cells[i % z.cells.size]!)) E (by rw [hflat]; simp) (fun j u u' e e' => by
    have hu := hq u (List.mem_of_getElem? e)
    rw [hflat] at e
    have e2 := (Array.getElem?_toList).symm.trans e
    rw [e2] at e'; obtain rfl := Option.some.inj e'
    exact flatV hu)
  have w1 : IntKind.i64.wrap (n : Int) = n := by simp [IntKind.wrap, IntKind.bits, IntKind.signed]; omega
  have w2 : IntKind.i64.wrap (c : Int) = c := by simp [IntKind.wrap, IntKind.bits, IntKind.signed]; omega
  refine Does.of_value (v := .slice (some ⟨w.heap.size, 0, none⟩) n c) (w' := w.alloc (.cells ((Array.range (c * m)).map (fun i => z.cells[i % z.cells.size]!)) E)) ?_ ⟨φ', k1, ?_, k2⟩
  · have h1 : ¬ ((ti.bytes : Int) * (c : Int) > 281474976710656) := by rw [hb]; have := Int.ofNat_le.2 hsz; rw [Int.natCast_mul] at this; rw [Int.mul_comm]; omega
    have h2 : ¬ ((n : Int) > (c : Int)) := by omega
    have h3 : ¬ ((n : Int) < 0) := by omega
    have h4 : ¬ ((c : Int) < 0) := by omega
    by_cases h0 : c * m = 0
    · obtain rfl : c = 0 := by rcases Nat.mul_eq_zero.1 h0 with h | h <;> omega
      obtain rfl : n = 0 := by omega
      have w0 : IntKind.i64.wrap 0 = 0 := rfl
      simp [execOp, ev_int he hx, ev_int he hy, Instr.makeSlice, run_underlying hT, asInt, asIntOf, hi, w0, hm, newRow]
      rw [Array.eq_empty_of_size_eq_zero (show (Array.range 0).size = 0 by simp)]
      simp
    · simp [execOp, ev_int he hx, ev_int he hy, Instr.makeSlice, run_underlying hT, asInt, asIntOf, hi, w1, w2, h1, h2, h3, h4, hm, h0, hz, newRow]
  · refine .slice H.length 0 n c ⟨w.heap.size, 0, _⟩ c k3 (fun _ => rfl) (fun m' h => ?_) hnc
    unfold capU at h; omega
end mem
end Go.Proofs.YtdafmafigcljkaaGreat.Am
/-
  An abstract machine over this model's programs, sixth part: append, and what is built of parts. No condition.
-/
namespace Go.Proofs.YtdafmafigcljkaaGreat.Am
open Go Go.RowKit
set_option linter.unusedVariables false
set_option linter.unusedSimpArgs false
section mem
variable {P : Program} {N : Nat} {t : Env} {H : AHeap} {d : Option Tmp} {ty : TypeId} {pos : String} {af : Array Edge} {g : Option (Nat × Bool)}
def partsOf (m : Nat) : List (Nat × Value) → List Value → Option (List Value)
  | [], cs => some cs
  | (i, v) :: rest, cs => if v.cells.size = m ∧ i * m + m ≤ cs.length then partsOf m rest (setMany cs (i * m) v.cells.toList) else none
theorem foldl_set (l : List Value) : ∀ (cs : Array Value) (off k : Nat), (l.zipIdx k).foldl (fun cs (x : Value × Nat) => cs.setIfInBounds (off + x.2) x.1) cs = (setMany cs.toList (off + k) l).toArray := by
  induction l with
  | nil => intro cs off k; simp [setMany]
  | cons v l ih =>
    intro cs off k
    simp only [List.zipIdx_cons, List.foldl_cons, setMany]
    rw [ih]
    congr 2
    simp
theorem setMany_V {φ : Phi} {vs vs' : List Value} (hl : vs.length = vs'.length) (hv : ∀ (j : Nat) c c', vs[j]? = some c → vs'[j]? = some c' → V φ c c') :
    ∀ (cs cs' : List Value) (k : Nat), cs.length = cs'.length → (∀ (j : Nat) c c', cs[j]? = some c → cs'[j]? = some c' → V φ c c') →
      ∀ (j : Nat) c c', (setMany cs k vs)[j]? = some c → (setMany cs' k vs')[j]? = some c' → V φ c c' := by
  intro cs cs' k hcl hc j c c' e e'
  rcases Nat.lt_or_ge j k with h | h
  · rw [setMany_lt _ _ _ _ h] at e e'; exact hc j c c' e e'
  · rcases Nat.lt_or_ge j (k + vs.length) with h' | h'
    · have hj : j < cs.length := by have := (List.getElem?_eq_some_iff.1 e).1; rw [setMany_length] at this; exact this
      have hk : j = k + (j - k) := by omega
      rw [hk, setMany_in _ _ _ _ (by omega) (by omega)] at e e'
      exact hv _ c c' e e'
    · rw [setMany_ge _ _ _ _ h'] at e
      rw [setMany_ge _ _ _ _ (by omega)] at e'
      exact hc j c c' e e'
theorem fill_ok {φ : Phi} {m : Nat} : ∀ (ps ps' : List (Nat × Value)) (cs cs' cs2 : List Value), ps.length = ps'.length →
    (∀ (j : Nat) p p', ps[j]? = some p → ps'[j]? = some p' → p.1 = p'.1 ∧ V φ p.2 p'.2) → cs.length = cs'.length → (∀ (j : Nat) c c', cs[j]? = some c → cs'[j]? = some c' → V φ c c') →
    partsOf m ps cs = some cs2 →
    ∃ cs2' : List Value, Instr.fill (fun i => some (i * m, m)) cs'.toArray ps' = some cs2'.toArray ∧ cs2.length = cs2'.length ∧ ∀ (j : Nat) c c', cs2[j]? = some c → cs2'[j]? = some c' → V φ c c'
  | [], ps', cs, cs', cs2, hl, hp, hcl, hc, h => by
    obtain rfl : ps' = [] := by cases ps' with | nil => rfl | cons a b => simp at hl
    simp only [partsOf, Option.some.injEq] at h
    subst h
    exact ⟨cs', rfl, hcl, hc⟩
  | (i, v) :: rest, ps', cs, cs', cs2, hl, hp, hcl, hc, h => by
    cases ps' with
    | nil => simp at hl
    | cons p' rest' =>
      obtain ⟨i', v'⟩ := p'
      obtain ⟨h1, h2⟩ := hp 0 _ _ rfl rfl
      dsimp only at h1 h2
      subst h1
      obtain ⟨k1, k2⟩ := cells_of_V h2
      simp only [partsOf] at h
      split at h
      · rename_i hcond
        have e1 : ¬ (v'.cells.size ≠ m ∨ i * m + v'.cells.size > cs'.toArray.size) := by simp; omega
        simp only [Instr.fill]
        have e2 : (v'.cells.size ≠ m || decide (i * m + v'.cells.size > cs'.toArray.size)) = false := by simp; omega
        have hz := foldl_set v'.cells.toList cs'.toArray (i * m) 0
        have hz2 : (v'.cells.zipIdx.foldl (fun cs (x : Value × Nat) => cs.setIfInBounds (i * m + x.2) x.1) cs'.toArray) = (setMany cs' (i * m) v'.cells.toList).toArray := by
          rw [← Array.foldl_toList]
          simpa using hz
        have hb : (decide (v'.cells.size ≠ m) || decide (i * m + v'.cells.size > cs'.toArray.size)) = false := by
          simp; omega
        rw [if_neg (by simpa using hb)]
        have := fill_ok (φ := φ) (m := m) rest rest' (setMany cs (i * m) v.cells.toList) (setMany cs' (i * m) v'.cells.toList) cs2 (by simpa using hl) (fun j p p' e e' => hp (j + 1) p p' (by simpa using e) (by simpa using e'))
          (by rw [setMany_length, setMany_length]; exact hcl)
          (setMany_V (by simpa using k1) (fun j c c' e e' => k2 j c c' (by simpa using e) (by simpa using e')) cs cs' _ hcl hc) h
        rw [← hz2] at this
        exact this
      · cases h
theorem parts_rel {ps : List (Nat × Operand)} {vs : List (Nat × Value)} (h : ps.map (fun p => (p.1, aEv t p.2)) = vs.map (fun p => (p.1, some p.2))) {φ : Phi} {a : Act} (he : EnvR φ N t a) :
    vs.length = (ps.map (fun p => (p.1, a.eval p.2))).length ∧ ∀ (j : Nat) p p', vs[j]? = some p → (ps.map (fun p => (p.1, a.eval p.2)))[j]? = some p' → p.1 = p'.1 ∧ V φ p.2 p'.2 := by
  refine ⟨by have := congrArg List.length h; simpa using this.symm, fun j p p' e e' => ?_⟩
  have h1 : (ps.map (fun p => (p.1, aEv t p.2)))[j]? = (vs.map (fun p => (p.1, some p.2)))[j]? := by rw [h]
  simp only [List.getElem?_map] at h1 e'
  rw [e] at h1
  cases hx : ps[j]? with
  | none => rw [hx] at h1; cases h1
  | some y =>
    rw [hx] at h1 e'
    obtain rfl := Option.some.inj e'
    simp only [Option.map_some, Option.some.injEq, Prod.mk.injEq] at h1
    exact ⟨h1.1.symm, ev_ok he h1.2⟩
theorem flat_self {φ : Phi} {l : List Value} (hf : ∀ c ∈ l, flat0 c = true) (j : Nat) (c c' : Value) (e : l[j]? = some c) (e' : l[j]? = some c') : V φ c c' := by
  rw [e] at e'; obtain rfl := Option.some.inj e'
  exact flatV (hf c (List.mem_of_getElem? e))
theorem replicate_cells {z : List Value} {m len : Nat} (hz : z.length = m) (hm : 0 < m) : ((Array.range (len * m)).map (fun i => z.toArray[i % z.toArray.size]!)).toList = (List.replicate len z).flatten := by
  apply List.ext_getElem?
  intro i
  rcases Nat.lt_or_ge i (len * m) with h | h
  · have hmod : i % m < m := Nat.mod_lt _ hm
    have key : ∀ (c i : Nat), i < c * m → ((List.replicate c z).flatten)[i]? = z[i % m]? := by
      intro c
      induction c with
      | zero => intro i hi; simp at hi
      | succ c ih =>
        intro i hi
        rw [List.replicate_succ, List.flatten_cons]
        rcases Nat.lt_or_ge i m with h' | h'
        · rw [List.getElem?_append_left (by omega), Nat.mod_eq_of_lt h']
        · rw [List.getElem?_append_right (by omega), hz, ih _ (by rw [Nat.succ_mul] at hi; omega), Nat.mod_eq_sub_mod h']
    rw [key len i h]
    have h2 : i % m < z.length := by omega
    rw [List.getElem?_eq_getElem h2]
    simp [h, hz, h2, List.getElem?_eq_getElem h2]
  · have h1 : ((List.replicate len z).flatten).length = len * m := by simp [hz]
    rw [List.getElem?_eq_none (l := (List.replicate len z).flatten) (by omega)]
    simp [h]
theorem m_buildSlice {T E : TypeId} {len m : Nat} {ps : List (Nat × Operand)} {vs : List (Nat × Value)} {z : Value} {cs : List Value} (hp : ps.map (fun p => (p.1, aEv t p.2)) = vs.map (fun p => (p.1, some p.2)))
    (hT : P.underlying T = some (.slice E)) (hm : ∀ w, (sizeOf E).run P w = .ok m w) (hz : ∀ w, (zeroValue E).run P w = .ok z w) (hf : ∀ c ∈ z.cells.toList, flat0 c = true) (hzm : z.cells.size = m) (hm0 : 0 < m)
    (hlen : len * m ≤ 16777216) (hcs : partsOf m vs ((List.replicate len z.cells.toList).flatten) = some cs) (hl : cs.length = len * m) :
    OpOk P N ⟨d, .buildSlice T len ps.toArray, ty, pos, af, g⟩ t H (.slice (some ⟨H.length, 0, none⟩) len len) (H ++ [.row false cs]) := by
  intro W φ w a hs he
  obtain ⟨q1, q2⟩ := parts_rel hp he
  have hq : ∀ x ∈ ((List.replicate len z.cells.toList).flatten), flat0 x = true := by
    intro x hx
    obtain ⟨l, hl, hxl⟩ := List.mem_flatten.1 hx
    rw [List.mem_replicate] at hl
    rw [hl.2] at hxl
    exact hf x hxl
  obtain ⟨cs', f1, f2, f3⟩ := fill_ok (φ := φ) (m := m) vs (ps.map (fun p => (p.1, a.eval p.2))) ((List.replicate len z.cells.toList).flatten) ((List.replicate len z.cells.toList).flatten) cs q1 q2 rfl (flat_self hq) hcs
  obtain ⟨φ', k1, k2, k3, k4⟩ := alloc_ok hs cs cs'.toArray E (by simp; omega) (fun j c c' e e' => f3 j c c' e (by simpa using e'))
  refine Does.of_value (v := .slice (some ⟨w.heap.size, 0, none⟩) len len) (w' := w.alloc (.cells cs'.toArray E)) ?_ ⟨φ', k1, ?_, k2⟩
  · have hbig : ¬ (len * m > 2 ^ 24) := by simpa using hlen
    have f1' : Instr.fill (fun i => some (i * m, m)) ((List.replicate len z.cells.toList).flatten).toArray (List.map (fun p => (p.1, a.eval p.2)) ps) = some cs'.toArray := f1
    have step : (Instr.buildSlice T len ((ps.map (fun p => (p.1, a.eval p.2))).toArray)).run P w = .ok (.slice (some ⟨w.heap.size, 0, none⟩) len len) (w.alloc (.cells cs'.toArray E)) := by
      unfold Instr.buildSlice
      by_cases h0 : len * m = 0
      · have hl0 : len = 0 := by rcases Nat.mul_eq_zero.1 h0 with h | h <;> omega
        have hr0 : ∀ zz : Array Value, (Array.range (len * m)).map (fun i => zz[i % zz.size]!) = ((List.replicate len z.cells.toList).flatten).toArray := fun zz => by
          subst hl0; simp
        simp only [Sem.run_bind, run_underlying hT, Result.andThen_ok, hm, if_neg hbig, if_pos h0, Sem.run_pure, hr0]
        rw [f1']
        simp [newRow]
      · have hr1 : (Array.range (len * m)).map (fun i => z.cells[i % z.cells.size]!) = ((List.replicate len z.cells.toList).flatten).toArray := by
          have := replicate_cells (z := z.cells.toList) (m := m) (len := len) (by simpa using hzm) hm0
          rw [← this]
        simp only [Sem.run_bind, run_underlying hT, Result.andThen_ok, hm, if_neg hbig, if_neg h0, Sem.run_pure, hz, hr1]
        rw [f1']
        simp [newRow]
    simp only [execOp]
    have : (Array.map (fun x : Nat × Operand => (x.1, a.eval x.2)) ps.toArray) = (ps.map (fun p => (p.1, a.eval p.2))).toArray := by simp
    simp only [Sem.run_bind]
    rw [show (Array.map (fun (x : Nat × Operand) => match x with | (i, x) => (i, a.eval x)) ps.toArray) = (ps.map (fun p => (p.1, a.eval p.2))).toArray from by simp, step]
    rfl
  · refine .slice H.length 0 len len ⟨w.heap.size, 0, _⟩ len k3 (fun _ => rfl) (fun m' h => ?_) (Nat.le_refl _)
    have : len ≤ len * m := Nat.le_mul_of_pos_right _ hm0
    unfold capU at h; omega
end mem
end Go.Proofs.YtdafmafigcljkaaGreat.Am
/-
  An abstract machine over this model's programs, seventh part: append. No condition.
-/
namespace Go.Proofs.YtdafmafigcljkaaGreat.Am
open Go Go.RowKit
set_option linter.unusedVariables false
set_option linter.unusedSimpArgs false
theorem growBy_le (n : Nat) : ∀ (r c : Nat), Builtin.growBy n r c ≤ max c (2 * n + 192) := by
  intro r
  induction r with
  | zero => intro c; simp only [Builtin.growBy]; omega
  | succ r ih =>
    intro c
    simp only [Builtin.growBy]
    split
    · omega
    · have := ih (c + (c + 768) / 4); omega
theorem nextcap_le {n c : Nat} (h : c < n) : Builtin.nextslicecap n c ≤ 2 * n + 192 := by
  unfold Builtin.nextslicecap
  split
  · omega
  · split
    · omega
    · have := growBy_le n 4 c; omega
def roomy (need by_ : Nat) : Prop := need ≤ 4294967296 ∧ by_ ≤ 16384
theorem roomy_ok {need c by_ : Nat} (h : roomy need by_) (hc : c < need) : ¬ (Builtin.nextslicecap need c * by_ > 2 ^ 48) := by
  have h1 := nextcap_le hc
  have h2 : Builtin.nextslicecap need c * by_ ≤ 8589934784 * 16384 := Nat.mul_le_mul (by have := h.1; omega) h.2
  omega
theorem zero_size (z : Array Value) (n : Nat) : (Builtin.zeroCells z n).size = n * z.size := by simp [Builtin.zeroCells]
theorem run_append_new {P : Program} {w : World} {sT xT E m by_ : Nat} {ti : TypeInfo} {dx : TypeDesc} {base : Option Addr} {sLen sCap n : Nat} {xa : Option Addr} {xc : Nat} {old new : Array Value} {z : Value} (ty : TypeId)
    (hT : P.underlying sT = some (.slice E)) (hX : P.underlying xT = some (.slice E)) (hi : ∀ w, (typeInfo E).run P w = .ok ti w) (hb : ti.bytes = by_) (hm : ∀ w, (sizeOf E).run P w = .ok m w) (hz : ∀ w, (zeroValue E).run P w = .ok z w)
    (hneed : sCap < sLen + n) (hroom : roomy (sLen + n) by_)
    (hold : (Builtin.firstCells m sLen (.slice base sLen sCap)).run P w.drew = .ok old w.drew) (hnew : (Builtin.firstCells m n (.slice xa n xc)).run P w.drew = .ok new w.drew) :
    ∃ cap, sLen + n ≤ cap ∧ (Builtin.append_ #[sT, xT] ty #[.slice base sLen sCap, .slice xa n xc]).run P w =
      .ok (.slice (some ⟨w.heap.size, 0, none⟩) (sLen + n) cap) (w.drew.alloc (.cells (old ++ new ++ Builtin.zeroCells z.cells (cap - (sLen + n))) E)) := by
  have hr := roomy_ok hroom hneed
  refine ⟨sLen + n + w.tape w.drawn (.appendCap (sLen + n) sCap E) % (2 ^ 63 - (sLen + n)), by omega, ?_⟩
  have h1 : ¬ (sLen + n ≤ sCap) := by omega
  have h2 : ¬ (9223372036854775807 < (sLen : Int) + (n : Int) ∧ by_ = 0) := by have := hroom.1; omega
  have hr' : ¬ (281474976710656 < Builtin.nextslicecap (sLen + n) sCap * by_) := by simpa using hr
  have hd : ({ w with drawn := w.drawn + 1 } : World) = w.drew := rfl
  have hmax : IntKind.i64.max = 9223372036854775807 := rfl
  simp [Builtin.append_, run_underlying hT, run_underlying hX, hm, Builtin.lenOf, h1, hi, hb, h2, hr', hmax, Question.forced, Question.cut, hold, hnew, hz, newRow]
theorem run_append_in {P : Program} {w w' : World} {sT xT E m : Nat} {a : Addr} {sLen sCap n : Nat} {xa : Option Addr} {xc : Nat} {new : Array Value} (ty : TypeId)
    (hT : P.underlying sT = some (.slice E)) (hX : P.underlying xT = some (.slice E)) (hm : ∀ w, (sizeOf E).run P w = .ok m w)
    (hneed : sLen + n ≤ sCap) (hnew : (Builtin.firstCells m n (.slice xa n xc)).run P w = .ok new w) (hst : (storeCells (a.add (sLen * m)) new.toList 0).run P w = .ok () w') :
    (Builtin.append_ #[sT, xT] ty #[.slice (some a) sLen sCap, .slice xa n xc]).run P w = .ok (.slice (some a) (sLen + n) sCap) w' := by
  simp [Builtin.append_, run_underlying hT, run_underlying hX, hm, Builtin.lenOf, hneed, hnew, hst]
section mem
variable {P : Program} {N : Nat} {t : Env} {H : AHeap} {d : Option Tmp} {ty : TypeId} {pos : String} {af : Array Edge} {g : Option (Nat × Bool)}
def SliceIs (H : AHeap) (m : Nat) (v : Value) (vs : List Value) : Prop :=
  (∃ i o n c, v = .slice (some ⟨i, o, none⟩) n c ∧ vs.length = n * m ∧ ∀ (j : Nat) u, vs[j]? = some u → hcell H i (o + j) = some u) ∨ (v = .slice none 0 0 ∧ vs = [])
theorem sliceIs_run {W : World} {φ : Phi} {w : World} {m : Nat} {v v' : Value} {vs : List Value} (hs : Sim W φ H w) (hv : V φ v v') (h : SliceIs H m v vs) :
    ∃ (xa : Option Addr) (n xc : Nat) (vs' : List Value), v' = .slice xa n xc ∧ vs.length = n * m ∧ (∃ a c, v = .slice a n c) ∧ (∀ w2 : World, (∀ b q, w2.cell? ⟨b, q, none⟩ = w.cell? ⟨b, q, none⟩) → (Builtin.firstCells m n (.slice xa n xc)).run P w2 = .ok vs'.toArray w2) ∧ vs'.length = vs.length ∧
      ∀ (j : Nat) u u', vs[j]? = some u → vs'[j]? = some u' → V φ u u' := by
  rcases h with ⟨i, o, n, c, rfl, hl, hc⟩ | ⟨rfl, rfl⟩
  · by_cases hE : n ≠ 0 ∨ c ≠ capE
    case neg =>
      obtain ⟨h1, h2⟩ := not_or.1 hE
      obtain rfl := Classical.not_not.1 h1
      obtain rfl := Classical.not_not.1 h2
      obtain rfl : vs = [] := List.eq_nil_of_length_eq_zero (by simpa using hl)
      cases hv with
      | empty _ _ a c' => exact ⟨a, 0, c', [], rfl, by simp, ⟨_, _, rfl⟩, fun w2 _ => by cases a <;> simp [Builtin.firstCells, loadCells, loadCellsFrom] <;> rfl, rfl, fun j u u' e => by simp at e⟩
      | slice _ _ _ _ L c' h _ _ _ => exact ⟨_, 0, c', [], rfl, by simp, ⟨_, _, rfl⟩, fun w2 _ => by simp [Builtin.firstCells, loadCells, loadCellsFrom], rfl, fun j u u' e => by simp at e⟩
    obtain ⟨L, c', hL, rfl, _⟩ := hv.inv_slice hE
    obtain ⟨vs', h1, h2, h3⟩ := cells_at hs hL hc
    refine ⟨_, n, c', vs', rfl, hl, ⟨_, _, rfl⟩, fun w2 hw2 => ?_, h2, h3⟩
    show (loadCells ⟨L.block, L.off + o, none⟩ (n * m)).run P w2 = _
    rw [← hl, ← h2]
    exact run_cells fun j v' e => by rw [hw2]; exact h1 j v' e
  · obtain ⟨_, _, rfl⟩ := hv.inv_nilSlice
    exact ⟨none, 0, 0, [], rfl, by simp, ⟨_, _, rfl⟩, fun w2 _ => rfl, rfl, fun j u u' e => by simp at e⟩
theorem m_append_new {sT xT E m by_ : Nat} {ti : TypeInfo} {s x : Operand} {sa xa : Option Addr} {sLen c n xc : Nat} {us vs : List Value} {z : Value} (hs0 : aEv t s = some (.slice sa sLen c)) (hx0 : aEv t x = some (.slice xa n xc))
    (hT : P.underlying sT = some (.slice E)) (hX : P.underlying xT = some (.slice E)) (hi : ∀ w, (typeInfo E).run P w = .ok ti w) (hb : ti.bytes = by_) (hm : ∀ w, (sizeOf E).run P w = .ok m w) (hz : ∀ w, (zeroValue E).run P w = .ok z w) (hzm : z.cells.size = m)
    (hus : SliceIs H m (.slice sa sLen c) us) (hvs : SliceIs H m (.slice xa n xc) vs) (hc : c < capU) (hneed : c < sLen + n) (hroom : roomy (sLen + n) by_) :
    OpOk P N ⟨d, .call { callee := .builtin .append, args := #[s, x], argTypes := #[sT, xT] }, ty, pos, af, g⟩ t H (.slice (some ⟨H.length, 0, none⟩) (sLen + n) (capU + m)) (H ++ [.row false (us ++ vs)]) := by
  intro W φ w a hs he
  obtain ⟨sa', sl, sc, us', e1, l1, ⟨q1, q2, q3⟩, f1, k1, v1⟩ := sliceIs_run (P := P) hs (ev_ok he hs0) hus
  obtain ⟨xa', xl, xc', vs', e2, l2, ⟨r1, r2, r3⟩, f2, k2, v2⟩ := sliceIs_run (P := P) hs (ev_ok he hx0) hvs
  obtain ⟨-, rfl, -⟩ := Value.slice.inj q3
  obtain ⟨-, rfl, -⟩ := Value.slice.inj r3
  have hsc : sc = c := by
    have := ev_ok he hs0
    rw [e1] at this
    cases this with
    | nilSlice => rfl
    | slice _ _ _ _ _ _ _ hcc _ _ => exact hcc hc
    | empty => unfold capE at hc; omega
  subst hsc
  obtain ⟨cap, hcap, hrun⟩ := run_append_new (P := P) (w := w) (by_ := by_) (dx := .slice E) (base := sa') (sLen := sLen) (sCap := sc) (n := n) (xa := xa') (xc := xc') ty hT hX hi hb hm hz hneed hroom (f1 w.drew fun _ _ => rfl) (f2 w.drew fun _ _ => rfl)
  have hsz : (us ++ vs).length = (sLen + n) * m := by rw [List.length_append, l1, l2, Nat.add_mul]
  have hsz' : (us' ++ vs').length = (us ++ vs).length := by simp [k1, k2]
  have hlen : (us'.toArray ++ vs'.toArray ++ Builtin.zeroCells z.cells (cap - (sLen + n))).size = cap * m := by
    have : (us'.toArray ++ vs'.toArray).size = (sLen + n) * m := by simp only [Array.size_append, List.size_toArray]; simp only [List.length_append] at hsz hsz'; omega
    rw [Array.size_append, this, zero_size, hzm, ← Nat.add_mul]
    congr 1; omega
  obtain ⟨φ', g1, g2, g3, g4⟩ := alloc_ok hs.drew (us ++ vs) (us'.toArray ++ vs'.toArray ++ Builtin.zeroCells z.cells (cap - (sLen + n))) E
    (by rw [hlen, hsz]; exact Nat.mul_le_mul_right _ hcap) (fun j u u' h h' => by
      have hj : j < (us ++ vs).length := (List.getElem?_eq_some_iff.1 h).1
      have h2 : (us' ++ vs')[j]? = some u' := by
        rw [Array.getElem?_append_left (by simp only [Array.size_append, List.size_toArray]; simp only [List.length_append] at hj; omega)] at h'
        simpa using h'
      rcases Nat.lt_or_ge j us.length with hlt | hge
      · rw [List.getElem?_append_left hlt] at h
        rw [List.getElem?_append_left (by omega)] at h2
        exact v1 j u u' h h2
      · rw [List.getElem?_append_right hge] at h
        rw [List.getElem?_append_right (by omega), k1] at h2
        exact v2 _ u u' h h2)
  refine Does.of_value (v := .slice (some ⟨w.heap.size, 0, none⟩) (sLen + n) cap) ?_ ⟨φ', g1, ?_, (Step.drew _ _ _).trans g2⟩
  · simp only [execOp, resolve, invoke, builtin]
    simp [e1, e2, hrun]
  · refine .slice H.length 0 (sLen + n) (capU + m) ⟨w.heap.size, 0, _⟩ cap g3 (fun h => by omega) (fun m' h => ?_) hcap
    obtain rfl : m = m' := by omega
    rw [hlen]; dsimp only; omega
theorem m_append_none {sT xT E m : Nat} {s x : Operand} {sa xa : Option Addr} {sLen c xc : Nat} {us : List Value} (hs0 : aEv t s = some (.slice sa sLen c)) (hx0 : aEv t x = some (.slice xa 0 xc))
    (hT : P.underlying sT = some (.slice E)) (hX : P.underlying xT = some (.slice E)) (hm : ∀ w, (sizeOf E).run P w = .ok m w) :
    OpOk P N ⟨d, .call { callee := .builtin .append, args := #[s, x], argTypes := #[sT, xT] }, ty, pos, af, g⟩ t H (.slice sa sLen c) H := by
  intro W φ w a hs he
  have h1 := ev_ok he hs0
  have h2 := ev_ok he hx0
  have hfirst : ∀ u : Value, V φ (.slice xa 0 xc) u → ∃ xa' xc', u = .slice xa' 0 xc' ∧ (Builtin.firstCells m 0 (.slice xa' 0 xc')).run P w = .ok #[] w := by
    intro u hu
    cases hu with
    | nilSlice => exact ⟨_, _, rfl, rfl⟩
    | slice i o n c L c' h _ _ _ => exact ⟨_, _, rfl, by simp [Builtin.firstCells, loadCells, loadCellsFrom]⟩
    | empty i o ad c' => exact ⟨_, _, rfl, by cases ad <;> simp [Builtin.firstCells, loadCells, loadCellsFrom] <;> rfl⟩
  obtain ⟨xa', xc', e2, f2⟩ := hfirst _ h2
  have hbase : ∃ sa' sc, a.eval s = .slice sa' sLen sc ∧ sLen ≤ sc := by
    generalize a.eval s = u at h1
    cases h1 with
    | nilSlice => exact ⟨_, _, rfl, Nat.le_refl _⟩
    | slice i o n c L c' h _ _ hn => exact ⟨_, _, rfl, hn⟩
    | empty i o ad c' => exact ⟨_, _, rfl, Nat.zero_le _⟩
  obtain ⟨sa', sc, e1, hle⟩ := hbase
  rw [e1] at h1
  refine Does.of_value (v := .slice sa' sLen sc) (w' := w) ?_ ⟨φ, hs, h1, Step.refl _ _ _⟩
  simp only [execOp, resolve, invoke, builtin]
  cases sa' with
  | none => simp [e1, e2, Builtin.append_, run_underlying hT, run_underlying hX, hm, Builtin.lenOf, hle, f2]
  | some ad => simp [e1, e2, Builtin.append_, run_underlying hT, run_underlying hX, hm, Builtin.lenOf, hle, f2, storeCells]
theorem m_append_u {sT xT E m by_ : Nat} {ti : TypeInfo} {s x : Operand} {xa : Option Addr} {i o sLen n xc : Nat} {us vs cs : List Value} {z : Value} (hs0 : aEv t s = some (.slice (some ⟨i, o, none⟩) sLen (capU + m))) (hx0 : aEv t x = some (.slice xa n xc))
    (hT : P.underlying sT = some (.slice E)) (hX : P.underlying xT = some (.slice E)) (hi : ∀ w, (typeInfo E).run P w = .ok ti w) (hb : ti.bytes = by_) (hm : ∀ w, (sizeOf E).run P w = .ok m w) (hz : ∀ w, (zeroValue E).run P w = .ok z w) (hzm : z.cells.size = m)
    (hg : hget H i = .row false cs) (hus : SliceIs H m (.slice (some ⟨i, o, none⟩) sLen (capU + m)) us) (hvs : SliceIs H m (.slice xa n xc) vs) (hones : ∀ v ∈ vs, oneCell v = true) (hroom : roomy (sLen + n) by_) (hmU : Nat.blt m 1000000 = true) :
    OpOk P N ⟨d, .call { callee := .builtin .append, args := #[s, x], argTypes := #[sT, xT] }, ty, pos, af, g⟩ t H (.slice (some ⟨H.length, 0, none⟩) (sLen + n) (capU + m)) (H.set i .dead ++ [.row false (us ++ vs)]) := by
  intro W φ w a hs he
  obtain ⟨L, c', hL, e1, _, hu, hle⟩ := (ev_ok he hs0).inv_slice (.inr (by have := Nat.le_of_ble_eq_true hmU; unfold capE capU; omega))
  have hlt := hs.dom i L hL
  obtain ⟨xa', xl, xc', vs', e2, l2, ⟨r1, r2, r3⟩, f2, k2, v2⟩ := sliceIs_run (P := P) hs (ev_ok he hx0) hvs
  obtain ⟨-, rfl, -⟩ := Value.slice.inj r3
  obtain ⟨sa', sl, sc, us', e1', l1, ⟨q1, q2, q3⟩, f1, k1, v1⟩ := sliceIs_run (P := P) hs (ev_ok he hs0) hus
  obtain ⟨-, rfl, -⟩ := Value.slice.inj q3
  rw [e1] at e1'
  obtain ⟨rfl, -, rfl⟩ := Value.slice.inj e1'
  have hext := hu m rfl
  have hsz : (us ++ vs).length = (sLen + n) * m := by rw [List.length_append, l1, l2, Nat.add_mul]
  have hobj := hs.obj i L hL
  rw [hg] at hobj
  have hucell : ∀ (j : Nat) u, us[j]? = some u → hcell H i (o + j) = some u := by
    rcases hus with ⟨i', o', n', c', e, _, hc⟩ | ⟨e, _⟩
    · obtain ⟨ea, _, _⟩ := Value.slice.inj e
      cases ea
      exact hc
    · cases e
  rcases Nat.lt_or_ge c' (sLen + n) with hfull | hin
  · obtain ⟨cap, hcap, hrun⟩ := run_append_new (P := P) (w := w) (by_ := by_) (dx := .slice E) (base := some ⟨L.block, L.off + o, none⟩) (sLen := sLen) (sCap := c') (n := n) (xa := xa') (xc := xc') ty hT hX hi hb hm hz hfull hroom (f1 w.drew fun _ _ => rfl) (f2 w.drew fun _ _ => rfl)
    have hlen : (us'.toArray ++ vs'.toArray ++ Builtin.zeroCells z.cells (cap - (sLen + n))).size = cap * m := by
      have : (us'.toArray ++ vs'.toArray).size = (sLen + n) * m := by simp only [Array.size_append, List.size_toArray]; simp only [List.length_append] at hsz; omega
      rw [Array.size_append, this, zero_size, hzm, ← Nat.add_mul]
      congr 1; omega
    obtain ⟨φ', g1, g2, g3, g4⟩ := alloc_ok hs.drew (us ++ vs) (us'.toArray ++ vs'.toArray ++ Builtin.zeroCells z.cells (cap - (sLen + n))) E
      (by rw [hlen, hsz]; exact Nat.mul_le_mul_right _ hcap) (fun j u u' h h' => by
        have hj : j < (us ++ vs).length := (List.getElem?_eq_some_iff.1 h).1
        have h2 : (us' ++ vs')[j]? = some u' := by
          rw [Array.getElem?_append_left (by simp only [Array.size_append, List.size_toArray]; simp only [List.length_append] at hj; omega)] at h'
          simpa using h'
        rcases Nat.lt_or_ge j us.length with hlt | hge
        · rw [List.getElem?_append_left hlt] at h
          rw [List.getElem?_append_left (by omega)] at h2
          exact v1 j u u' h h2
        · rw [List.getElem?_append_right hge] at h
          rw [List.getElem?_append_right (by omega), k1] at h2
          exact v2 _ u u' h h2)
    obtain ⟨g5, g6⟩ := kill_ok i g1
    have hset : (H ++ [AObj.row false (us ++ vs)]).set i .dead = H.set i .dead ++ [AObj.row false (us ++ vs)] := List.set_append_left _ _ hlt
    rw [hset] at g5 g6
    refine Does.of_value (v := .slice (some ⟨w.heap.size, 0, none⟩) (sLen + n) cap) ?_ ⟨φ', g5, ?_, ((Step.drew _ _ _).trans g2).trans g6⟩
    · simp only [execOp, resolve, invoke, builtin]
      simp [e1, e2, hrun]
    · refine .slice H.length 0 (sLen + n) (capU + m) ⟨w.heap.size, 0, _⟩ cap g3 (fun h => by omega) (fun m' h => ?_) hcap
      obtain rfl : m = m' := by omega
      rw [hlen]; dsimp only; omega
  · have hones' : ∀ v ∈ vs', oneCell v = true := by
      intro v' hv'
      obtain ⟨j, hj, e⟩ := List.getElem_of_mem hv'
      have hj2 : j < vs.length := by omega
      have := v2 j _ _ (List.getElem?_eq_getElem hj2) (List.getElem?_eq_getElem hj)
      rw [e] at this
      rw [this.oneCell]; exact hones _ (List.getElem_mem hj2)
    have hmul : (sLen + n) * m ≤ c' * m := Nat.mul_le_mul_right _ hin
    rw [Nat.add_mul] at hmul
    obtain ⟨w', hr, hw, hc⟩ := storeCells_run (P := P) L.block (L.off + o + sLen * m) vs' 0 w hones' (fun j hj => by
      have := hobj.there rfl (o + sLen * m + j) (by omega)
      rw [show L.off + o + sLen * m + (0 + j) = L.off + (o + sLen * m + j) by omega]; exact this)
    rw [Nat.add_zero] at hw
    obtain ⟨g1, g2⟩ := rewrite_ok (cs2 := []) hs hL hg hw (by omega) (by omega) (by simp) (fun j c h => by simp at h)
    have hset : hget (H.set i (.row false [])) i = .row false [] := hget_set_same _ hlt
    obtain ⟨φ', g3, g4, g5, g6⟩ := move_ok (o := o) (cs2 := us ++ vs) g1 hL hset (by rw [hsz, Nat.add_mul]; omega) (fun j u h => by
      rcases Nat.lt_or_ge j us.length with hlt | hge
      · rw [List.getElem?_append_left hlt] at h
        rw [hw.cell _ _ (by omega)]
        have h3 := hucell j u h
        obtain ⟨u', h4, h5⟩ := cell_ok hs hL h3
        exact ⟨u', by rw [Nat.add_assoc]; exact h4, h5⟩
      · rw [List.getElem?_append_right hge] at h
        have hj : j - us.length < vs'.length := by have := (List.getElem?_eq_some_iff.1 h).1; omega
        refine ⟨vs'[j - us.length], ?_, v2 _ _ _ h (List.getElem?_eq_getElem hj)⟩
        have := hc (j - us.length) _ (List.getElem?_eq_getElem hj)
        rw [show L.off + o + sLen * m + (0 + (j - us.length)) = L.off + o + j by omega] at this
        exact this)
    have hss : (H.set i (AObj.row false [])).set i .dead = H.set i .dead := List.set_set ..
    rw [hss] at g3 g4
    rw [List.length_set] at g5
    refine Does.of_value (v := .slice (some ⟨L.block, L.off + o, none⟩) (sLen + n) c') (w' := w') ?_ ⟨φ', g3, ?_, g2.trans g4⟩
    · have hrun := run_append_in (P := P) (w := w) (w' := w') (m := m) (a := ⟨L.block, L.off + o, none⟩) (sLen := sLen) (sCap := c') (n := n) (xa := xa') (xc := xc') (new := vs'.toArray) ty hT hX hm hin (f2 w fun _ _ => rfl) (by rw [add_none]; exact hr)
      simp only [execOp, resolve, invoke, builtin]
      simp [e1, e2, hrun]
    · have := V.slice (φ := φ') H.length 0 (sLen + n) (capU + m) ⟨L.block, L.off + o, L.ext - o⟩ c' g5 (fun h => by omega) (fun m' h => by
        obtain rfl : m = m' := by omega
        dsimp only; omega) hin
      simpa using this
end mem
end Go.Proofs.YtdafmafigcljkaaGreat.Am
/-
  An abstract machine over this model's programs, eighth part: code, calls, function bodies. No condition.
-/
namespace Go.Proofs.YtdafmafigcljkaaGreat.Am
open Go Go.RowKit
set_option linter.unusedVariables false
set_option linter.unusedSimpArgs false
def Post (W : World) (φ : Phi) (H : AHeap) (w : World) (N : Nat) (dfr : List Deferred) (Q : Exit → Env → AHeap → Prop) (ex : Exit) (a' : Act) (w' : World) : Prop :=
  a'.defers = dfr ∧ ∃ φ' t' H', Sim W φ' H' w' ∧ EnvR φ' N t' a' ∧ Step φ H w φ' H' w' ∧ Q ex t' H'
def AOps (P : Program) (N : Nat) (ops : Array Oper) (l : List Oper) (t : Env) (H : AHeap) (Q : Exit → Env → AHeap → Prop) : Prop :=
  ∀ W φ₀ H₀ w₀ dfr φ w a, Sim W φ H w → EnvR φ N t a → Step φ₀ H₀ w₀ φ H w → a.defers = dfr → wpList P ops (Post W φ₀ H₀ w₀ N dfr Q) l a w
def AWp (P : Program) (N : Nat) (c : Code) (t : Env) (H : AHeap) (Q : Exit → Env → AHeap → Prop) : Prop :=
  ∀ W φ₀ H₀ w₀ dfr φ w a, Sim W φ H w → EnvR φ N t a → Step φ₀ H₀ w₀ φ H w → a.defers = dfr → c.wp P (Post W φ₀ H₀ w₀ N dfr Q) a w
def aThen (next : Env → AHeap → Prop) (Q : Exit → Env → AHeap → Prop) : Exit → Env → AHeap → Prop
  | .normal, t, H => next t H
  | e, t, H => Q e t H
def aBlock (id : Nat) (Q : Exit → Env → AHeap → Prop) : Exit → Env → AHeap → Prop
  | .exit id', t, H => match Nat.beq id' id with
    | true => Q .normal t H
    | false => Q (.exit id') t H
  | e, t, H => Q e t H
section rules
variable {P : Program} {N : Nat} {ops : Array Oper} {t : Env} {H : AHeap} {Q : Exit → Env → AHeap → Prop}
theorem AOps.nil (h : Q .normal t H) : AOps P N ops [] t H Q :=
  fun W φ₀ H₀ w₀ dfr φ w a hs he hst hd => ⟨hd, φ, t, H, hs, he, hst, h⟩
theorem AOps.cons {o : Oper} {rest : List Oper} {v : Value} {H' : AHeap} (hg : o.guard = none) (h : OpOk P N o t H v H') (hd : ∀ k, o.dst = some k → k < N)
    (hr : AOps P N ops rest (eput t o.dst v) H' Q) : AOps P N ops (o :: rest) t H Q := by
  intro W φ₀ H₀ w₀ dfr φ w a hs he hst hdf
  unfold wpList
  rw [if_pos (by simp [Region.wanted, hg])]
  refine .inl (Does.wp (h W φ w a hs he) fun v' w' ⟨φ', h1, h2, h3⟩ => ?_)
  refine hr W φ₀ H₀ w₀ dfr φ' w' _ h1 ((he.mono (h3.keeps hs)).put hd h2) (hst.trans h3) ?_
  cases hdst : o.dst <;> simpa [Act.put, hdst] using hdf
theorem yielded_ok {φ : Phi} {a : Act} (he : EnvR φ N t a) {j d : Nat} {b : Bool} (hj : (ops[j]?).bind (·.dst) = some d) (hb : eget t d = some (.bool b)) : yielded ops a.tmps j = some b := by
  obtain ⟨v', h1, h2⟩ := he.get d _ hb
  obtain rfl := V.of_flat (.bool b) h2
  simp [yielded, hj, h1]
theorem AOps.guardT {o : Oper} {rest : List Oper} {v : Value} {H' : AHeap} {j d : Nat} {want : Bool} (hg : o.guard = some (j, want)) (hj : (ops[j]?).bind (·.dst) = some d) (hb : eget t d = some (.bool want))
    (h : OpOk P N o t H v H') (hd : ∀ k, o.dst = some k → k < N) (hr : AOps P N ops rest (eput t o.dst v) H' Q) : AOps P N ops (o :: rest) t H Q := by
  intro W φ₀ H₀ w₀ dfr φ w a hs he hst hdf
  unfold wpList
  rw [if_pos (by simp [Region.wanted, hg, yielded_ok he hj hb])]
  refine .inl (Does.wp (h W φ w a hs he) fun v' w' ⟨φ', h1, h2, h3⟩ => ?_)
  refine hr W φ₀ H₀ w₀ dfr φ' w' _ h1 ((he.mono (h3.keeps hs)).put hd h2) (hst.trans h3) ?_
  cases hdst : o.dst <;> simpa [Act.put, hdst] using hdf
theorem undef_flat : Flat undef := .tuple _ (fun i v h => by simp at h)
theorem yielded_no {φ : Phi} {a : Act} (he : EnvR φ N t a) {j d : Nat} {want : Bool} (hj : (ops[j]?).bind (·.dst) = some d) (hb : eget t d = some (.bool (!want)) ∨ eget t d = some undef) : ¬ (yielded ops a.tmps j = some want) := by
  rcases hb with hb | hb
  · rw [yielded_ok he hj hb]; simp
  · obtain ⟨v', h1, h2⟩ := he.get d _ hb
    obtain rfl := V.of_flat undef_flat h2
    simp [yielded, hj, h1, undef]
theorem AOps.guardF {o : Oper} {rest : List Oper} {j d : Nat} {want : Bool} (hg : o.guard = some (j, want)) (hj : (ops[j]?).bind (·.dst) = some d) (hb : eget t d = some (.bool (!want)) ∨ eget t d = some undef)
    (hd : ∀ k, o.dst = some k → k < N) (hr : AOps P N ops rest (eput t o.dst undef) H Q) : AOps P N ops (o :: rest) t H Q := by
  intro W φ₀ H₀ w₀ dfr φ w a hs he hst hdf
  unfold wpList
  rw [if_neg (by simpa [Region.wanted, hg] using yielded_no he hj hb)]
  refine hr W φ₀ H₀ w₀ dfr φ w _ hs (he.put hd (V.flat undef_flat)) hst ?_
  cases hdst : o.dst <;> simpa [Act.put, hdst] using hdf
theorem AOps.cases {l : List Oper} {d : Nat} {b : Bool} (h : eget t d = some (.bool b)) (hT : b = true → AOps P N ops l ((d, .bool true) :: t) H Q) (hF : b = false → AOps P N ops l ((d, .bool false) :: t) H Q) : AOps P N ops l t H Q := by
  have hsub : ∀ c, b = c → Sub ((d, .bool c) :: t) t := fun c hc => Sub.cons (by rw [h, hc]) (Sub.refl t)
  intro W φ₀ H₀ w₀ dfr φ w a hs he hst hdf
  cases b with
  | true => exact hT rfl W φ₀ H₀ w₀ dfr φ w a hs (he.sub (hsub true rfl)) hst hdf
  | false => exact hF rfl W φ₀ H₀ w₀ dfr φ w a hs (he.sub (hsub false rfl)) hst hdf
theorem AWp.sub {c : Code} {t' : Env} (hs : Sub t' t) (h : AWp P N c t' H Q) : AWp P N c t H Q :=
  fun W φ₀ H₀ w₀ dfr φ w a hs' he hst hdf => h W φ₀ H₀ w₀ dfr φ w a hs' (he.sub hs) hst hdf
theorem Post.mono {W : World} {φ : Phi} {H₀ : AHeap} {w : World} {dfr : List Deferred} {Q' : Exit → Env → AHeap → Prop} (hq : ∀ e t H, Q e t H → Q' e t H) {ex : Exit} {a' : Act} {w' : World}
    (h : Post W φ H₀ w N dfr Q ex a' w') : Post W φ H₀ w N dfr Q' ex a' w' :=
  let ⟨hd, φ', t', H', h1, h2, h3, h4⟩ := h
  ⟨hd, φ', t', H', h1, h2, h3, hq _ _ _ h4⟩
theorem AWp.mono {c : Code} {Q' : Exit → Env → AHeap → Prop} (hq : ∀ e t H, Q e t H → Q' e t H) (h : AWp P N c t H Q) : AWp P N c t H Q' :=
  fun W φ₀ H₀ w₀ dfr φ w a hs he hst hdf => wp_mono (h W φ₀ H₀ w₀ dfr φ w a hs he hst hdf) fun _ _ _ q => q.mono hq
theorem AWp.region {id : Nat} {l : List Oper} (h : AOps P N l.toArray l t H Q) : AWp P N (.region id l.toArray false) t H Q :=
  fun W φ₀ H₀ w₀ dfr φ w a hs he hst hdf => wp_region_lit (h W φ₀ H₀ w₀ dfr φ w a hs he hst hdf)
theorem AWp.seq {x y : Code} (h : AWp P N x t H (aThen (fun t' H' => AWp P N y t' H' Q) Q)) : AWp P N (.seq x y) t H Q := by
  intro W φ₀ H₀ w₀ dfr φ w a hs he hst hdf
  refine wp_seq (wp_mono (h W φ₀ H₀ w₀ dfr φ w a hs he hst hdf) ?_)
  rintro e a' w' ⟨hd, φ', t', H', h1, h2, h3, h4⟩
  cases e with
  | normal => exact h4 W φ₀ H₀ w₀ dfr φ' w' a' h1 h2 h3 hd
  | _ => exact ⟨hd, φ', t', H', h1, h2, h3, h4⟩
theorem AWp.skip (h : Q .normal t H) : AWp P N .skip t H Q :=
  fun W φ₀ H₀ w₀ dfr φ w a hs he hst hdf => wp_skip ⟨hdf, φ, t, H, hs, he, hst, h⟩
theorem AWp.ret (h : Q .ret t H) : AWp P N .ret t H Q :=
  fun W φ₀ H₀ w₀ dfr φ w a hs he hst hdf => wp_ret ⟨hdf, φ, t, H, hs, he, hst, h⟩
theorem AWp.exit {id : Nat} (h : Q (.exit id) t H) : AWp P N (.exit id) t H Q :=
  fun W φ₀ H₀ w₀ dfr φ w a hs he hst hdf => wp_exit ⟨hdf, φ, t, H, hs, he, hst, h⟩
theorem AWp.cond {c : Operand} {x y : Code} {b : Bool} (hc : aEv t c = some (.bool b)) (hT : b = true → AWp P N x t H Q) (hF : b = false → AWp P N y t H Q) : AWp P N (.cond c x y) t H Q :=
  fun W φ₀ H₀ w₀ dfr φ w a hs he hst hdf => wp_cond_split (ev_bool he hc) (fun h => hT h W φ₀ H₀ w₀ dfr φ w a hs he hst hdf) (fun h => hF h W φ₀ H₀ w₀ dfr φ w a hs he hst hdf)
theorem AWp.block {id : Nat} {c : Code} (h : AWp P N c t H (aBlock id Q)) : AWp P N (.block id c) t H Q := by
  intro W φ₀ H₀ w₀ dfr φ w a hs he hst hdf
  refine wp_block (wp_mono (h W φ₀ H₀ w₀ dfr φ w a hs he hst hdf) ?_)
  rintro e a' w' ⟨hd, φ', t', H', h1, h2, h3, h4⟩
  cases e with
  | exit id' =>
    simp only [Exit.inBlock, aBlock] at h4 ⊢
    split
    · rename_i h; subst h; simp only [Nat.beq_refl] at h4; exact ⟨hd, φ', t', H', h1, h2, h3, h4⟩
    · rename_i h
      have hb : Nat.beq id' id = false := by
        cases hb : Nat.beq id' id with
        | true => exact absurd (Nat.eq_of_beq_eq_true hb) h
        | false => rfl
      rw [hb] at h4; exact ⟨hd, φ', t', H', h1, h2, h3, h4⟩
  | _ => exact ⟨hd, φ', t', H', h1, h2, h3, h4⟩
end rules
structure VA (φ : Phi) (args : List Value) (args' : Array Value) : Prop where
  size : args'.size = args.length
  get : ∀ (i : Nat) v v', args[i]? = some v → args'[i]? = some v' → V φ v v'
def ACall (P : Program) (f : FuncId) (args : List Value) (H : AHeap) (v : Value) (H' : AHeap) : Prop :=
  ∀ W φ w args', Sim W φ H w → VA φ args args' → Calls P f args' w fun e w' => ∃ v' φ', e = .returned v' ∧ Sim W φ' H' w' ∧ V φ' v v' ∧ Step φ H w φ' H' w'
def envOf (args : List Value) : Env := args.zipIdx.map fun p => (p.2, p.1)
theorem eget_envOf (l : List Value) : ∀ (k n : Nat), eget ((l.zipIdx k).map fun p => (p.2, p.1)) n = if n < k then none else l[n - k]? := by
  induction l with
  | nil => intro k n; simp [eget]
  | cons v l ih =>
    intro k n
    simp only [List.zipIdx_cons, List.map_cons, eget]
    by_cases h : n = k
    · subst h; simp
    · have : Nat.beq n k = false := by
        cases hb : Nat.beq n k with
        | true => exact absurd (Nat.eq_of_beq_eq_true hb) h
        | false => rfl
      rw [this]; dsimp only
      rw [ih]
      by_cases h2 : n < k
      · rw [if_pos h2, if_pos (by omega)]
      · rw [if_neg h2, if_neg (by omega), show n - k = (n - (k + 1)) + 1 by omega]; simp
def ResOk (P : Program) (N : Nat) (fn : Func) (t : Env) (H : AHeap) (v : Value) : Prop :=
  ∀ W φ w a, Sim W φ H w → EnvR φ N t a → ∃ v', (results fn a.tmps).run P w = .ok v' w ∧ V φ v v'
def Fin (H : AHeap) (v : Value) (H' : AHeap) (v₀ : Value) (H₀ : AHeap) : Prop :=
  ∀ W φ w φ' w' v', Sim W φ H w → Step φ H w φ' H' w' → Sim W φ' H' w' → V φ' v v' → ∃ φ'', Sim W φ'' H₀ w' ∧ V φ'' v₀ v' ∧ Step φ H w φ'' H₀ w'
theorem Fin.refl (H : AHeap) (v : Value) (H' : AHeap) : Fin H v H' v H' := fun W φ w φ' w' v' _ h2 h3 h4 => ⟨φ', h3, h4, h2⟩
def Ends (P : Program) (N : Nat) (fn : Func) (H : AHeap) (v₀ : Value) (H₀ : AHeap) (ex : Exit) (t : Env) (H' : AHeap) : Prop :=
  (ex = .normal ∨ ex = .ret) ∧ ∃ v, ResOk P N fn t H' v ∧ Fin H v H' v₀ H₀
theorem ACall.of_body {P : Program} {f : FuncId} {fn : Func} {c : Code} {args : List Value} {H : AHeap} {v : Value} {H' : AHeap} {N : Nat} (hf : P.funcs[f]? = some fn) (hb : fn.body = some c)
    (hN : fn.ntmps = N) (hle : args.length ≤ N) (h : AWp P N c (envOf args) H (Ends P N fn H v H')) : ACall P f args H v H' := by
  intro W φ w args' hs hva
  refine calls_of_wp hf hb ?_
  refine wp_mono (h W φ H w [] φ w _ hs ⟨?_, ?_⟩ (Step.refl _ _ _) rfl) ?_
  · simp [hva.size, hN]; omega
  · intro k u e
    have e2 : args[k]? = some u := by
      have := eget_envOf args 0 k
      simp only [Nat.not_lt_zero, if_false, Nat.sub_zero] at this
      exact this.symm.trans e
    have hk : k < args'.size := by rw [hva.size]; exact (List.getElem?_eq_some_iff.1 e2).1
    exact ⟨args'[k], by rw [Array.getElem?_append_left hk]; exact Array.getElem?_eq_getElem hk, hva.get k u _ e2 (Array.getElem?_eq_getElem hk)⟩
  · rintro e a' w' ⟨hd, φ', t', H'', h1, h2, h3, h4, u, h5, h6⟩
    obtain ⟨u', h7, h8⟩ := h5 W φ' w' a' h1 h2
    obtain ⟨φ'', h9, h10, h11⟩ := h6 W φ w φ' w' u' hs h3 h1 h8
    rcases h4 with rfl | rfl
    · exact ⟨hd, u', h7, u', φ'', rfl, h9, h10, h11⟩
    · exact ⟨hd, u', h7, u', φ'', rfl, h9, h10, h11⟩
section res
variable {P : Program} {N : Nat} {fn : Func} {t : Env} {H : AHeap}
theorem tuple2 {φ : Phi} {a b a' b' : Value} (h1 : V φ a a') (h2 : V φ b b') : V φ (.tuple #[a, b]) (.tuple #[a', b']) :=
  .tuple _ _ rfl fun i v v' e e' => by
    match i with
    | 0 => simp at e e'; subst e; subst e'; exact h1
    | 1 => simp at e e'; subst e; subst e'; exact h2
    | n + 2 => simp at e
theorem tuple3 {φ : Phi} {a b c a' b' c' : Value} (h1 : V φ a a') (h2 : V φ b b') (h3 : V φ c c') : V φ (.tuple #[a, b, c]) (.tuple #[a', b', c']) :=
  .tuple _ _ rfl fun i v v' e e' => by
    match i with
    | 0 => simp at e e'; subst e; subst e'; exact h1
    | 1 => simp at e e'; subst e; subst e'; exact h2
    | 2 => simp at e e'; subst e; subst e'; exact h3
    | n + 3 => simp at e
theorem tuple4 {φ : Phi} {a b c d a' b' c' d' : Value} (h1 : V φ a a') (h2 : V φ b b') (h3 : V φ c c') (h4 : V φ d d') : V φ (.tuple #[a, b, c, d]) (.tuple #[a', b', c', d']) :=
  .tuple _ _ rfl fun i v v' e e' => by
    match i with
    | 0 => simp at e e'; subst e; subst e'; exact h1
    | 1 => simp at e e'; subst e; subst e'; exact h2
    | 2 => simp at e e'; subst e; subst e'; exact h3
    | 3 => simp at e e'; subst e; subst e'; exact h4
    | n + 4 => simp at e
def RV (P : Program) (N : Nat) (rv : ResultVar) (t : Env) (H : AHeap) (v : Value) : Prop :=
  ∀ W φ w a, Sim W φ H w → EnvR φ N t a → ∃ v', (match rv with
    | .tmp t => pure (a.tmps.getD t undef)
    | .cell p t => do loadVar t (← asAddr (a.tmps.getD p undef)) : Sem Value).run P w = .ok v' w ∧ V φ v v'
theorem rv_tmp {r : Nat} {v : Value} (hv : eget t r = some v) : RV P N (.tmp r) t H v := by
  intro W φ w a hs he
  obtain ⟨v', h1, h2⟩ := he.get r v hv
  exact ⟨v', by simp [h1], h2⟩
theorem res1 {r : ResultVar} {v : Value} (h : fn.results = #[r]) (hv : RV P N r t H v) : ResOk P N fn t H v := by
  intro W φ w a hs he
  obtain ⟨v', h1, h2⟩ := hv W φ w a hs he
  refine ⟨v', ?_, h2⟩
  cases r <;> simpa [results, h] using h1
theorem mapM_run2 {α β : Type} (f : α → Sem β) (a b : α) (w : World) (x y : β) (h1 : (f a).run P w = .ok x w) (h2 : (f b).run P w = .ok y w) : ((#[a, b] : Array α).mapM f).run P w = .ok #[x, y] w := by
  simp [h1, h2]
theorem res2 {r s : ResultVar} {v u : Value} (h : fn.results = #[r, s]) (hv : RV P N r t H v) (hu : RV P N s t H u) : ResOk P N fn t H (.tuple #[v, u]) := by
  intro W φ w a hs he
  obtain ⟨v', h1, h2⟩ := hv W φ w a hs he
  obtain ⟨u', h3, h4⟩ := hu W φ w a hs he
  refine ⟨.tuple #[v', u'], ?_, tuple2 h2 h4⟩
  unfold results
  rw [h, Sem.run_bind, mapM_run2 _ _ _ _ v' u' (by cases r <;> exact h1) (by cases s <;> exact h3)]
  rfl
theorem mapM_run3 {α β : Type} (f : α → Sem β) (a b c : α) (w : World) (x y z : β) (h1 : (f a).run P w = .ok x w) (h2 : (f b).run P w = .ok y w) (h3 : (f c).run P w = .ok z w) : ((#[a, b, c] : Array α).mapM f).run P w = .ok #[x, y, z] w := by
  simp [h1, h2, h3]
theorem res3 {r s q : ResultVar} {v u x : Value} (h : fn.results = #[r, s, q]) (hv : RV P N r t H v) (hu : RV P N s t H u) (hx : RV P N q t H x) : ResOk P N fn t H (.tuple #[v, u, x]) := by
  intro W φ w a hs he
  obtain ⟨v', h1, h2⟩ := hv W φ w a hs he
  obtain ⟨u', h3, h4⟩ := hu W φ w a hs he
  obtain ⟨x', h5, h6⟩ := hx W φ w a hs he
  refine ⟨.tuple #[v', u', x'], ?_, tuple3 h2 h4 h6⟩
  unfold results
  rw [h, Sem.run_bind, mapM_run3 _ _ _ _ _ v' u' x' (by cases r <;> exact h1) (by cases s <;> exact h3) (by cases q <;> exact h5)]
  rfl
theorem mapM_run4 {α β : Type} (f : α → Sem β) (a b c d : α) (w : World) (x y z u : β) (h1 : (f a).run P w = .ok x w) (h2 : (f b).run P w = .ok y w) (h3 : (f c).run P w = .ok z w) (h4 : (f d).run P w = .ok u w) : ((#[a, b, c, d] : Array α).mapM f).run P w = .ok #[x, y, z, u] w := by
  simp [h1, h2, h3, h4]
theorem res4 {r s q p : ResultVar} {v u x y : Value} (h : fn.results = #[r, s, q, p]) (hv : RV P N r t H v) (hu : RV P N s t H u) (hx : RV P N q t H x) (hy : RV P N p t H y) : ResOk P N fn t H (.tuple #[v, u, x, y]) := by
  intro W φ w a hs he
  obtain ⟨v', h1, h2⟩ := hv W φ w a hs he
  obtain ⟨u', h3, h4⟩ := hu W φ w a hs he
  obtain ⟨x', h5, h6⟩ := hx W φ w a hs he
  obtain ⟨y', h7, h8⟩ := hy W φ w a hs he
  refine ⟨.tuple #[v', u', x', y'], ?_, tuple4 h2 h4 h6 h8⟩
  unfold results
  rw [h, Sem.run_bind, mapM_run4 _ _ _ _ _ _ v' u' x' y' (by cases r <;> exact h1) (by cases s <;> exact h3) (by cases q <;> exact h5) (by cases p <;> exact h7)]
  rfl
end res
section call
variable {P : Program} {N : Nat} {t : Env} {H H' : AHeap} {d : Option Tmp} {ty : TypeId} {pos : String} {af : Array Edge} {g : Option (Nat × Bool)}
theorem args_ok {x : List Operand} {vs : List Value} (h : x.map (aEv t) = vs.map some) {φ : Phi} {a : Act} (he : EnvR φ N t a) : VA φ vs (x.toArray.map a.eval) :=
  ⟨by simp [mapM_len h], fun i v v' e e' => mapM_ok h he i v v' e (by simpa using e')⟩
theorem o_call {f : FuncId} {x : List Operand} {T : Array TypeId} {vs : List Value} {v : Value} (hx : x.map (aEv t) = vs.map some) (hf : ∀ args w, (callFunc f args).run P w = .ok (.enter f args) w)
    (h : ACall P f vs H v H') : OpOk P N ⟨d, .call { callee := .value (.func f), args := x.toArray, argTypes := T }, ty, pos, af, g⟩ t H v H' := by
  intro W φ w a hs he
  have hrun : (execOp a.eval ⟨d, .call { callee := .value (.func f), args := x.toArray, argTypes := T }, ty, pos, af, g⟩).run P w = .ok (.enter f (x.toArray.map a.eval)) w := by
    simp [execOp, resolve, Act.eval, Deferred.ofValue, invoke, hf]
  unfold Does
  rw [hrun]
  exact (h W φ w _ hs (args_ok hx he)).mono fun e w' ⟨v', φ', h1, h2, h3, h4⟩ => ⟨v', h1, φ', h2, h3, h4⟩
theorem o_callV {y : Operand} {f : FuncId} {fs cs : Array Value} {x : List Operand} {T : Array TypeId} {vs : List Value} {v : Value} (hy : aEv t y = some (.func (.func f) fs cs)) (hx : x.map (aEv t) = vs.map some)
    (hf : ∀ args w, (callFunc f args).run P w = .ok (.enter f args) w)
    (h : ACall P f (fs.toList ++ vs ++ cs.toList) H v H') : OpOk P N ⟨d, .call { callee := .value y, args := x.toArray, argTypes := T }, ty, pos, af, g⟩ t H v H' := by
  intro W φ w a hs he
  obtain ⟨fs', cs', e, h1, h2, h3, h4⟩ := (ev_ok he hy).inv_func
  have hrun : (execOp a.eval ⟨d, .call { callee := .value y, args := x.toArray, argTypes := T }, ty, pos, af, g⟩).run P w = .ok (.enter f (fs' ++ x.toArray.map a.eval ++ cs')) w := by
    simp [execOp, resolve, e, Deferred.ofValue, invoke, hf]
  have hva := args_ok hx he
  unfold Does
  rw [hrun]
  refine (h W φ w _ hs ⟨?_, ?_⟩).mono fun e w' ⟨v', φ', h1, h2, h3, h4⟩ => ⟨v', h1, φ', h2, h3, h4⟩
  · have := hva.size; simp only [Array.size_append, List.length_append, Array.length_toList] at *; omega
  · intro i u u' e1 e2
    rw [List.append_assoc] at e1
    rw [Array.append_assoc] at e2
    rcases Nat.lt_or_ge i fs.size with hi | hi
    · rw [List.getElem?_append_left (by simpa using hi)] at e1
      rw [Array.getElem?_append_left (by omega)] at e2
      exact h3 i u u' (by simpa using e1) e2
    · rw [List.getElem?_append_right (by simpa using hi)] at e1
      rw [Array.getElem?_append_right (by omega), ← h1] at e2
      simp only [Array.length_toList] at e1
      have hsz := hva.size
      rcases Nat.lt_or_ge (i - fs.size) vs.length with hj | hj
      · rw [List.getElem?_append_left hj] at e1
        rw [Array.getElem?_append_left (by omega)] at e2
        exact hva.get _ u u' e1 e2
      · rw [List.getElem?_append_right hj] at e1
        rw [Array.getElem?_append_right (by omega), hsz] at e2
        exact h4 _ u u' (by simpa using e1) e2
end call
end Go.Proofs.YtdafmafigcljkaaGreat.Am
/-
  An abstract machine over this model's programs, tenth part: the rules in the shape in which a program prints them. No condition.
-/
namespace Go.Proofs.YtdafmafigcljkaaGreat.Am
open Go Go.RowKit
set_option linter.unusedVariables false
set_option linter.unusedSimpArgs false
section rules
variable {P : Program} {N : Nat} {ops : Array Oper} {t : Env} {H : AHeap} {Q : Exit → Env → AHeap → Prop}
theorem lt_of {d N : Nat} (h : Nat.blt d N = true) : ∀ k, (some d : Option Tmp) = some k → k < N := fun k e => Option.some.inj e ▸ (Nat.blt_eq ▸ h)
theorem lt_of_none {N : Nat} : ∀ k, (none : Option Tmp) = some k → k < N := fun k e => nomatch e
theorem AOps.c {d : Nat} {op : Op} {ty : TypeId} {pos : String} {af : Array Edge} {rest : List Oper} {v : Value} {H' : AHeap} (hd : Nat.blt d N = true) (h : OpOk P N ⟨some d, op, ty, pos, af, none⟩ t H v H')
    (hr : AOps P N ops rest ((d, v) :: t) H' Q) : AOps P N ops (⟨some d, op, ty, pos, af, none⟩ :: rest) t H Q := AOps.cons rfl h (lt_of hd) hr
theorem AOps.p {d : Nat} {op : Op} {ty : TypeId} {pos : String} {af : Array Edge} {rest : List Oper} {v : Value} (hd : Nat.blt d N = true) (h : PureOk P N ⟨some d, op, ty, pos, af, none⟩ t v)
    (hr : AOps P N ops rest ((d, v) :: t) H Q) : AOps P N ops (⟨some d, op, ty, pos, af, none⟩ :: rest) t H Q := AOps.cons rfl (h.op H) (lt_of hd) hr
theorem AOps.s {op : Op} {ty : TypeId} {pos : String} {af : Array Edge} {rest : List Oper} {v : Value} {H' : AHeap} (h : OpOk P N ⟨none, op, ty, pos, af, none⟩ t H v H')
    (hr : AOps P N ops rest t H' Q) : AOps P N ops (⟨none, op, ty, pos, af, none⟩ :: rest) t H Q := AOps.cons rfl h lt_of_none hr
theorem AOps.gc {d j e : Nat} {want : Bool} {op : Op} {ty : TypeId} {pos : String} {af : Array Edge} {rest : List Oper} {v : Value} {H' : AHeap} (hj : (ops[j]?).bind (·.dst) = some e) (hb : eget t e = some (.bool want)) (hd : Nat.blt d N = true)
    (h : OpOk P N ⟨some d, op, ty, pos, af, some (j, want)⟩ t H v H') (hr : AOps P N ops rest ((d, v) :: t) H' Q) : AOps P N ops (⟨some d, op, ty, pos, af, some (j, want)⟩ :: rest) t H Q := AOps.guardT rfl hj hb h (lt_of hd) hr
theorem AOps.gp {d j e : Nat} {want : Bool} {op : Op} {ty : TypeId} {pos : String} {af : Array Edge} {rest : List Oper} {v : Value} (hj : (ops[j]?).bind (·.dst) = some e) (hb : eget t e = some (.bool want)) (hd : Nat.blt d N = true)
    (h : PureOk P N ⟨some d, op, ty, pos, af, some (j, want)⟩ t v) (hr : AOps P N ops rest ((d, v) :: t) H Q) : AOps P N ops (⟨some d, op, ty, pos, af, some (j, want)⟩ :: rest) t H Q := AOps.guardT rfl hj hb (h.op H) (lt_of hd) hr
theorem AOps.gn {d j e : Nat} {want : Bool} {op : Op} {ty : TypeId} {pos : String} {af : Array Edge} {rest : List Oper} (hj : (ops[j]?).bind (·.dst) = some e) (hb : eget t e = some (.bool (!want))) (hd : Nat.blt d N = true)
    (hr : AOps P N ops rest ((d, undef) :: t) H Q) : AOps P N ops (⟨some d, op, ty, pos, af, some (j, want)⟩ :: rest) t H Q := AOps.guardF rfl hj (.inl hb) (lt_of hd) hr
theorem AOps.gu {d j e : Nat} {want : Bool} {op : Op} {ty : TypeId} {pos : String} {af : Array Edge} {rest : List Oper} (hj : (ops[j]?).bind (·.dst) = some e) (hb : eget t e = some undef) (hd : Nat.blt d N = true)
    (hr : AOps P N ops rest ((d, undef) :: t) H Q) : AOps P N ops (⟨some d, op, ty, pos, af, some (j, want)⟩ :: rest) t H Q := AOps.guardF rfl hj (.inr hb) (lt_of hd) hr
variable {d : Option Tmp} {ty : TypeId} {pos : String} {af : Array Edge} {g : Option (Nat × Bool)}
theorem p_pickT {c x y : Operand} {v : Value} (hc : aEv t c = some (.bool true)) (hx : aEv t x = some v) : PureOk P N ⟨d, .pick c x y, ty, pos, af, g⟩ t v := p_pick hc (fun _ => hx) (fun h => nomatch h)
theorem p_pickF {c x y : Operand} {v : Value} (hc : aEv t c = some (.bool false)) (hy : aEv t y = some v) : PureOk P N ⟨d, .pick c x y, ty, pos, af, g⟩ t v := p_pick hc (fun h => nomatch h) (fun _ => hy)
theorem ACall.body {P : Program} {f : FuncId} {fn : Func} {c : Code} {args : List Value} {H : AHeap} {v : Value} {H' : AHeap} {N : Nat} (t : Env) (hf : P.funcs[f]? = some fn) (hb : fn.body = some c)
    (hN : fn.ntmps = N) (hle : Nat.ble args.length N = true) (ht : envOf args = t) (h : AWp P N c t H (Ends P N fn H v H')) : ACall P f args H v H' :=
  ACall.of_body hf hb hN (Nat.le_of_ble_eq_true hle) (ht ▸ h)
end rules
theorem hcell_lt {H : AHeap} {i o : Nat} {v : Value} (h : hcell H i o = some v) : i < H.length := by
  rcases Nat.lt_or_ge i H.length with h' | h'
  · exact h'
  · unfold hcell at h; rw [hget_ge h'] at h; cases h
theorem V.restrict {φ φ' : Phi} (hm : ∀ i L, φ i = some L → φ' i = some L) {v u u' : Value} (h : V φ v u) : V φ' v u' → V φ v u' := by
  induction h generalizing u' with
  | bool b => intro k; cases k; exact .bool b
  | int a n => intro k; cases k; exact .int a n
  | string s => intro k; cases k; exact .string s
  | nilPtr => intro k; cases k; exact .nilPtr
  | ptr i o L h =>
    intro k
    cases k with
    | ptr _ _ L' h' => rw [hm _ _ h] at h'; obtain rfl := Option.some.inj h'; exact .ptr i o L h
  | nilSlice => intro k; cases k; exact .nilSlice
  | slice i o n c L c' h hc hu hn =>
    intro k
    cases k with
    | slice _ _ _ _ L' c2 h' hc' hu' hn' => rw [hm _ _ h] at h'; obtain rfl := Option.some.inj h'; exact .slice i o n c L c2 h hc' hu' hn'
    | empty _ _ a c2 => exact .empty _ _ a c2
  | empty i o a c' =>
    intro k
    cases k with
    | slice _ _ _ _ L' c2 h' hc' hu' hn' => exact .empty _ _ _ _
    | empty _ _ a c2 => exact .empty _ _ a c2
  | nilMap => intro k; cases k; exact .nilMap
  | map r L h =>
    intro k
    cases k with
    | map _ L' h' => rw [hm _ _ h] at h'; obtain rfl := Option.some.inj h'; exact .map r L h
  | nilFunc => intro k; cases k; exact .nilFunc
  | nilIface => intro k; cases k; exact .nilIface
  | iface t v v' h ih => intro k; cases k with | iface _ _ w hw => exact .iface t v w (ih hw)
  | func fn fs fs' cs cs' h1 h2 hf hc ihf ihc =>
    intro k
    cases k with
    | func _ _ gs _ ds k1 k2 kf kc =>
      refine .func fn fs gs cs ds k1 k2 (fun i v v' e e' => ?_) (fun i v v' e e' => ?_)
      · obtain ⟨x, hx⟩ := get_pair h1 e; exact ihf i v x e hx (kf i v v' e e')
      · obtain ⟨x, hx⟩ := get_pair h2 e; exact ihc i v x e hx (kc i v v' e e')
  | agg cs cs' h hc ih =>
    intro k
    cases k with
    | agg _ ds k1 kc =>
      refine .agg cs ds k1 (fun i v v' e e' => ?_)
      obtain ⟨x, hx⟩ := get_pair h e; exact ih i v x e hx (kc i v v' e e')
  | tuple cs cs' h hc ih =>
    intro k
    cases k with
    | tuple _ ds k1 kc =>
      refine .tuple cs ds k1 (fun i v v' e e' => ?_)
      obtain ⟨x, hx⟩ := get_pair h e; exact ih i v x e hx (kc i v v' e e')
theorem Fin.drop {H : AHeap} {v : Value} {H' : AHeap} (hf : Flat v) (hold : ∀ i, i < H.length → hget H' i = hget H i) : Fin H v H' v H := by
  intro W φ w φ' w' v' hs hst hs' hv
  have hm := hst.keeps hs
  obtain rfl := V.of_flat hf hv
  refine ⟨φ, ⟨hs.dom, ?_, fun i j L M hij ei ej hi hj => ?_, fun i j L M hij ei ej hi hj => ?_, hs'.base⟩, V.flat hf, ⟨fun _ _ => rfl, Nat.le_refl _, hst.size, hst.cells, hst.frozen, fun b o hb h => h⟩⟩
  · intro i L e
    have h1 := hs.obj i L e
    have h2 := hs'.obj i L (hm i L e)
    rw [hold i (hs.dom i L e)] at h2
    cases ho : hget H i with
    | dead => trivial
    | row ro cells =>
      rw [ho] at h1 h2
      refine ⟨h2.fits, fun j c hc => ?_, h2.old, h2.own, h2.there⟩
      obtain ⟨c', e1, e2⟩ := h2.reads j c hc
      obtain ⟨u, e3, e4⟩ := h1.reads j c hc
      exact ⟨c', e1, V.restrict hm e4 e2⟩
    | map es => rw [ho] at h2; exact h2
  · exact hs'.disj i j L M hij (hm i L ei) (hm j M ej) (by rw [hold i (hs.dom i L ei)]; exact hi) (by rw [hold j (hs.dom j M ej)]; exact hj)
  · exact hs'.mdisj i j L M hij (hm i L ei) (hm j M ej) (by rw [hold i (hs.dom i L ei)]; exact hi) (by rw [hold j (hs.dom j M ej)]; exact hj)
theorem wr64 {x : Int} (h1 : -9223372036854775808 ≤ x) (h2 : x ≤ 9223372036854775807) : IntKind.i64.wrap x = x := by
  simp [IntKind.wrap, IntKind.bits, IntKind.signed]; omega
def ints (l : List Int) : List Value := l.map (.int .i64)
def rd (l : List Int) (k : Nat) : Int := l.getD k 0
theorem ints_length (l : List Int) : (ints l).length = l.length := by simp [ints]
theorem ints_get {l : List Int} {k : Nat} (h : k < l.length) : (ints l)[k]? = some (.int .i64 (rd l k)) := by
  simp [ints, rd, List.getD, List.getElem?_eq_getElem h]
theorem ints_set (l : List Int) (k : Nat) (x : Int) : (ints l).set k (.int .i64 x) = ints (l.set k x) := by simp [ints, List.map_set]
theorem ints_one {l : List Int} : ∀ v ∈ ints l, oneCell v = true := by
  intro v h
  obtain ⟨x, _, rfl⟩ := List.mem_map.1 h
  rfl
theorem ints_flat {l : List Int} : ∀ v ∈ ints l, flat0 v = true := by
  intro v h
  obtain ⟨x, _, rfl⟩ := List.mem_map.1 h
  rfl
theorem row_cell {H : AHeap} {i o : Nat} {ro : Bool} {cs : List Value} {v : Value} (hk : hget H i = .row ro cs) (h : cs[o]? = some v) : hcell H i o = some v := by unfold hcell; rw [hk]; exact h
section shaped
variable {P : Program} {N : Nat} {t : Env} {H : AHeap} {d : Option Tmp} {ty : TypeId} {pos : String} {af : Array Edge} {g : Option (Nat × Bool)}
theorem s_box {E : TypeId} {x : Operand} {v : Value} {i : Nat} {H' : AHeap} {cs : List Value} (hx : aEv t x = some v) (hi : H.length = i) (hc : v.cells.toList = cs) (hH : H ++ [AObj.row false cs] = H') :
    OpOk P N ⟨d, .box E x, ty, pos, af, g⟩ t H (.pointer (some ⟨i, 0, none⟩)) H' := by subst hi hc hH; exact m_box hx
theorem s_alloc {E : TypeId} {z : Value} {i : Nat} {H' : AHeap} {cs : List Value} (hz : ∀ w, (zeroValue E).run P w = .ok z w) (hc : z.cells.toList = cs) (hf : cs.all flat0 = true) (hi : H.length = i) (hH : H ++ [AObj.row false cs] = H') :
    OpOk P N ⟨d, .alloc E, ty, pos, af, g⟩ t H (.pointer (some ⟨i, 0, none⟩)) H' := by
  subst hi hc hH; exact m_alloc hz fun c h => List.all_eq_true.1 hf c h
theorem s_indexSl {T : TypeId} {x y : Operand} {E : TypeId} {m q : Nat} {k : IntKind} {n : Int} {i o len c : Nat} (hT : P.underlying T = some (.slice E)) (hm : ∀ w, (sizeOf E).run P w = .ok m w) (hx : aEv t x = some (.slice (some ⟨i, o, none⟩) len c)) (hy : aEv t y = some (.int k n))
    (h0 : 0 ≤ n) (h1 : n < len) (hq : o + n.toNat * m = q) : PureOk P N ⟨d, .indexAddr T x y, ty, pos, af, g⟩ t (.pointer (some ⟨i, q, none⟩)) := by subst hq; exact p_indexAddr hx hy hT hm h0 h1
theorem s_fieldAddr {s : TypeId} {x : Operand} {f : Nat} {fs : Array Field} {fd : Field} {i o m q : Nat} (hs : P.underlying s = some (.struct fs)) (hf : fs[f]? = some fd) (hm : ∀ w, (sizeOf fd.type).run P w = .ok m w) (h0 : m ≠ 0) (hx : aEv t x = some (.pointer (some ⟨i, o, none⟩))) (hq : o + fd.offset = q) :
    PureOk P N ⟨d, .fieldAddr s x f, ty, pos, af, g⟩ t (.pointer (some ⟨i, q, none⟩)) := by subst hq; exact p_fieldAddr hx hs hf hm h0
theorem s_store {T : TypeId} {x y : Operand} {i o : Nat} {v : Value} {cs : List Value} {H' : AHeap} (hn : ∀ w, (sizeOf T).run P w = .ok 1 w) (hx : aEv t x = some (.pointer (some ⟨i, o, none⟩))) (hy : aEv t y = some v) (hv : oneCell v = true)
    (hg : hget H i = .row false cs) (ho : o < cs.length) (hH : H.set i (.row false (cs.set o v)) = H') : OpOk P N ⟨d, .store T x y, ty, pos, af, g⟩ t H undef H' := by subst hH; exact m_store hx hy hv hn hg ho
theorem s_load {T : TypeId} {x : Operand} {i o : Nat} {v : Value} (hT : ∀ w, (isAgg T).run P w = .ok false w) (hx : aEv t x = some (.pointer (some ⟨i, o, none⟩))) (hc : hcell H i o = some v) :
    OpOk P N ⟨d, .load T x, ty, pos, af, g⟩ t H v H := m_load hx hT hc
end shaped
theorem bool_eq {a b : Bool} (h : a = b) : Value.bool a = .bool b := by rw [h]
theorem flat_list {l : List Value} (h : l.all flat0 = true) : ∀ c ∈ l, flat0 c = true := fun c hc => List.all_eq_true.1 h c hc
section shaped
variable {P : Program} {N : Nat} {t : Env} {H : AHeap} {d : Option Tmp} {ty : TypeId} {pos : String} {af : Array Edge} {g : Option (Nat × Bool)}
end shaped
theorem res_none {P : Program} {N : Nat} {fn : Func} {t : Env} {H : AHeap} (h : fn.results = #[]) : ResOk P N fn t H (.tuple #[]) :=
  fun W φ w a hs he => ⟨.tuple #[], by simp [results, h], V.flat (.tuple _ (fun i v h => by simp at h))⟩
end Go.Proofs.YtdafmafigcljkaaGreat.Am
