/-
  What a call made and hands out, renumbered; arrays of arrays of ints. No condition.
-/
import Derived.Test.YtocaepkkaihiiaaAm12
namespace Go.Proofs.Ytocaepkkaihiiaa.Am
open Go Go.RowKit
set_option linter.unusedVariables false
set_option linter.unusedSimpArgs false

/-- The same value, told with other numbers: new, old. -/
inductive Ren (σ : Nat → Option Nat) : Value → Value → Prop where
  | flat (v : Value) (h : Flat v) : Ren σ v v
  | ptr (j i o : Nat) (h : σ j = some i) : Ren σ (.pointer (some ⟨j, o, none⟩)) (.pointer (some ⟨i, o, none⟩))
  | slice (j i o n c : Nat) (h : σ j = some i) : Ren σ (.slice (some ⟨j, o, none⟩) n c) (.slice (some ⟨i, o, none⟩) n c)
  | map (j i : Nat) (h : σ j = some i) : Ren σ (.map (some j)) (.map (some i))
  | agg (cs cs' : Array Value) (h : cs.size = cs'.size) (hc : ∀ (i : Nat) v v', cs[i]? = some v → cs'[i]? = some v' → Ren σ v v') : Ren σ (.agg cs) (.agg cs')
  | tuple (cs cs' : Array Value) (h : cs.size = cs'.size) (hc : ∀ (i : Nat) v v', cs[i]? = some v → cs'[i]? = some v' → Ren σ v v') : Ren σ (.tuple cs) (.tuple cs')

theorem Ren.V {σ : Nat → Option Nat} {φ ψ : Phi} (hσ : ∀ j i L, σ j = some i → φ i = some L → ψ j = some L) {v' v w : Value} (h : Ren σ v' v) : V φ v w → V ψ v' w := by
  induction h generalizing w with
  | flat v hf => intro k; obtain rfl := V.of_flat hf k; exact V.flat hf
  | ptr j i o h => intro k; cases k with | ptr _ _ L e => exact .ptr _ _ L (hσ _ _ _ h e)
  | slice j i o n c h =>
    intro k
    cases k with
    | slice _ _ _ _ L c' e h1 h2 h3 => exact .slice _ _ _ _ L c' (hσ _ _ _ h e) h1 h2 h3
    | empty _ _ a c' => exact .empty _ _ a c'
  | map j i h => intro k; cases k with | map _ L e => exact .map _ L (hσ _ _ _ h e)
  | agg cs cs' h _ ih =>
    intro k
    cases k with
    | agg _ ds k1 kc =>
      refine .agg _ _ (h.trans k1) fun i v u e e' => ?_
      obtain ⟨x, hx⟩ := get_pair h e
      exact ih i v x e hx (kc i x u hx e')
  | tuple cs cs' h _ ih =>
    intro k
    cases k with
    | tuple _ ds k1 kc =>
      refine .tuple _ _ (h.trans k1) fun i v u e e' => ?_
      obtain ⟨x, hx⟩ := get_pair h e
      exact ih i v x e hx (kc i x u hx e')

inductive ObjRen (σ : Nat → Option Nat) (H : AHeap) (i : Nat) : AObj → AObj → Prop where
  | old (h : i < H.length) : ObjRen σ H i (hget H i) (hget H i)
  | dead (o : AObj) : ObjRen σ H i .dead o
  | row (cs' cs : List Value) (hl : cs'.length = cs.length) (h : ∀ (j : Nat) c' c, cs'[j]? = some c' → cs[j]? = some c → Ren σ c' c) : ObjRen σ H i (.row false cs') (.row false cs)
  | map (es : List (Value × Value)) : ObjRen σ H i (.map es) (.map es)

theorem Fin.ren {H G H' : AHeap} {v v₀ : Value} (σ : Nat → Option Nat) (hlen : H.length ≤ H'.length) (hσ : ∀ i k, σ i = some k → i < H'.length) (hold : ∀ i, i < H.length → σ i = some i)
    (hinj : ∀ i j k, σ i = some k → σ j = some k → i = j) (hobj : ∀ i k, σ i = some k → ObjRen σ H i (hget H' i) (hget G k)) (hv : Ren σ v₀ v) : Fin H v G v₀ H' := by
  intro W φ w φ' w' u hs hst hs' hu
  have hm := hst.keeps hs
  have key : ∀ j i L, σ j = some i → φ' i = some L → (σ j).bind φ' = some L := fun j i L h e => by rw [h]; exact e
  have inv : ∀ i L, (σ i).bind φ' = some L → ∃ k, σ i = some k ∧ φ' k = some L := fun i L e => by
    cases h : σ i with
    | none => rw [h] at e; cases e
    | some k => rw [h] at e; exact ⟨k, rfl, e⟩
  have rowOf : ∀ i k, σ i = some k → (hget H' i).isRow = true → (hget G k).isRow = true := fun i k h hr => by
    have := hobj i k h
    generalize hget H' i = a at *
    generalize hget G k = b at *
    cases this with
    | old => exact hr
    | dead => cases hr
    | row => rfl
    | map => cases hr
  have mapOf : ∀ i k, σ i = some k → (hget H' i).isMap = true → (hget G k).isMap = true := fun i k h hr => by
    have := hobj i k h
    generalize hget H' i = a at *
    generalize hget G k = b at *
    cases this with
    | old => exact hr
    | dead => cases hr
    | row => cases hr
    | map => rfl
  refine ⟨fun i => (σ i).bind φ', ⟨fun i L e => ?_, fun i L e => ?_, fun i j L M hij ei ej ri rj => ?_, fun i j L M hij ei ej ri rj => ?_, hs'.base⟩, hv.V key hu, ⟨fun i hi => ?_, hlen, hst.size, hst.cells, hst.frozen, fun b o hb ho => ?_⟩⟩
  · obtain ⟨k, h, _⟩ := inv i L e; exact hσ i k h
  · obtain ⟨k, h, e'⟩ := inv i L e
    have h1 := hobj i k h
    have h2 := hs'.obj k L e'
    by_cases hi : i < H.length ∧ hget H' i = hget H i ∧ hget G k = hget H i
    · obtain ⟨hi, g1, g2⟩ := hi
      obtain rfl : i = k := Option.some.inj ((hold i hi).symm.trans h)
      have hφ : φ i = some L := (hst.agree i hi).symm.trans e'
      have h3 := hs.obj i L hφ
      rw [g1]
      rw [g2] at h2
      cases ho : hget H i with
      | dead => trivial
      | row ro cells =>
        rw [ho] at h2 h3
        refine ⟨h2.fits, fun j c hc => ?_, h2.old, h2.own, h2.there⟩
        obtain ⟨c', e1, e2⟩ := h2.reads j c hc
        obtain ⟨u', e3, e4⟩ := h3.reads j c hc
        exact ⟨c', e1, (V.restrict hm e4 e2).mono fun a M ea => key a a M (hold a (hs.dom a M ea)) (hm a M ea)⟩
      | map es => rw [ho] at h2; exact h2
    · revert h1 h2 hi
      generalize hget H' i = a
      generalize hget G k = b
      intro h1 h2 hi
      cases h1 with
      | old hi' => exact absurd ⟨hi', rfl, rfl⟩ hi
      | dead => trivial
      | row cs' cs hl hc =>
        refine ⟨by rw [hl]; exact h2.fits, fun j c' e1 => ?_, h2.old, h2.own, h2.there⟩
        have hj : j < cs.length := by rw [← hl]; exact (List.getElem?_eq_some_iff.1 e1).1
        obtain ⟨x, e3, e4⟩ := h2.reads j _ (List.getElem?_eq_getElem hj)
        exact ⟨x, e3, (hc j c' _ e1 (List.getElem?_eq_getElem hj)).V key e4⟩
      | map es => exact h2
  · obtain ⟨k, h, e⟩ := inv i L ei
    obtain ⟨k', h', e'⟩ := inv j M ej
    exact hs'.disj k k' L M (fun hk => hij (hinj i j k' (hk ▸ h) h')) e e' (rowOf i k h ri) (rowOf j k' h' rj)
  · obtain ⟨k, h, e⟩ := inv i L ei
    obtain ⟨k', h', e'⟩ := inv j M ej
    exact hs'.mdisj k k' L M (fun hk => hij (hinj i j k' (hk ▸ h) h')) e e' (mapOf i k h ri) (mapOf j k' h' rj)
  · show (σ i).bind φ' = φ i
    rw [hold i hi]; exact hst.agree i hi
  · obtain ⟨i, L, e, hr, h1, h2, h3⟩ := ho
    obtain ⟨k, h, e'⟩ := inv i L e
    exact hst.own b o hb ⟨k, L, e', rowOf i k h hr, h1, h2, h3⟩

/-- nothing new is handed out: the numbers behind are free -/
theorem Fin.pad {H G l : AHeap} {v : Value} (hf : Flat v) (hold : ∀ i, i < H.length → hget G i = hget H i) : Fin H v G v (H ++ l) := by
  refine Fin.ren (fun i => if i < H.length then some i else none) (by simp) (fun i k h => ?_) (fun i hi => if_pos hi) (fun i j k h1 h2 => ?_) (fun i k h => ?_) (.flat v hf)
  · split at h
    · rw [List.length_append]; omega
    · cases h
  · split at h1 <;> split at h2 <;> simp_all
  · split at h
    · rename_i hi; obtain rfl := Option.some.inj h
      rw [hget_append_lt hi, hold i hi]; exact .old hi
    · cases h
def σ1 (n k : Nat) (i : Nat) : Option Nat := if i < n then some i else if i = n then some k else none
theorem σ1_new (n k : Nat) : σ1 n k n = some k := by unfold σ1; rw [if_neg (Nat.lt_irrefl _), if_pos rfl]
/-- one new row of flat cells is handed out -/
theorem Fin.one {H G : AHeap} {v v₀ : Value} {k : Nat} {cs : List Value} (hold : ∀ i, i < H.length → hget G i = hget H i) (hk : H.length ≤ k) (hg : hget G k = .row false cs) (hf : ∀ c ∈ cs, flat0 c = true)
    (hv : Ren (σ1 H.length k) v₀ v) : Fin H v G v₀ (H ++ [.row false cs]) := by
  refine Fin.ren (σ1 H.length k) (by simp) (fun i j h => ?_) (fun i hi => if_pos hi) (fun i j q h1 h2 => ?_) (fun i j h => ?_) hv
  · unfold σ1 at h; rw [List.length_append, List.length_singleton]; split at h
    · omega
    · split at h
      · omega
      · cases h
  · unfold σ1 at h1 h2
    split at h1 <;> split at h2 <;> (try split at h1) <;> (try split at h2) <;> simp_all <;> omega
  · unfold σ1 at h; split at h
    · rename_i hi; obtain rfl := Option.some.inj h
      rw [hget_append_lt hi, hold i hi]; exact .old hi
    · split at h
      · rename_i hi; obtain rfl := Option.some.inj h; subst hi
        rw [hget_last, hg]
        exact .row _ _ rfl fun j c' c e e' => by rw [e] at e'; obtain rfl := Option.some.inj e'; exact .flat _ (flat0_ok (hf _ (List.mem_of_getElem? e)))
      · cases h
theorem ren_slice {n k o m c : Nat} : Ren (σ1 n k) (.slice (some ⟨n, o, none⟩) m c) (.slice (some ⟨k, o, none⟩) m c) := .slice _ _ _ _ _ (σ1_new n k)
theorem ren_agg2 {σ : Nat → Option Nat} {a a' b b' : Value} (h1 : Ren σ a a') (h2 : Ren σ b b') : Ren σ (.agg #[a, b]) (.agg #[a', b']) := by
  refine .agg _ _ rfl fun i v v' e e' => ?_
  match i with
  | 0 => simp at e e'; subst e e'; exact h1
  | 1 => simp at e e'; subst e e'; exact h2
  | n + 2 => simp at e
theorem ren_tup2 {σ : Nat → Option Nat} {a a' b b' : Value} (h1 : Ren σ a a') (h2 : Ren σ b b') : Ren σ (.tuple #[a, b]) (.tuple #[a', b']) := by
  refine .tuple _ _ rfl fun i v v' e e' => ?_
  match i with
  | 0 => simp at e e'; subst e e'; exact h1
  | 1 => simp at e e'; subst e e'; exact h2
  | n + 2 => simp at e

/-! ### Arrays of m ints in a row -/
def All (m : Nat) (l : List (List Int)) : Prop := ∀ r ∈ l, r.length = m
def rw_ (l : List (List Int)) (i : Nat) : List Int := l.getD i []
theorem flat_len {m : Nat} : ∀ {l : List (List Int)}, All m l → l.flatten.length = l.length * m
  | [], _ => by simp
  | r :: l, h => by
    rw [List.flatten_cons, List.length_append, h r (List.mem_cons_self ..), flat_len (fun r hr => h r (List.mem_cons_of_mem _ hr)), List.length_cons, Nat.succ_mul]; omega
theorem rw_len {m : Nat} {l : List (List Int)} (h : All m l) {i : Nat} (hi : i < l.length) : (rw_ l i).length = m := by
  unfold rw_; rw [List.getD_eq_getElem?_getD, List.getElem?_eq_getElem hi]; exact h _ (List.getElem_mem hi)
theorem flat_get {m : Nat} : ∀ {l : List (List Int)}, All m l → ∀ {i j : Nat}, i < l.length → j < m → l.flatten[i * m + j]? = (rw_ l i)[j]?
  | [], _, i, _, hi, _ => absurd hi (Nat.not_lt_zero _)
  | r :: l, h, 0, j, _, hj => by
    rw [List.flatten_cons, Nat.zero_mul, Nat.zero_add, List.getElem?_append_left (by rw [h r (List.mem_cons_self ..)]; exact hj)]; rfl
  | r :: l, h, i + 1, j, hi, hj => by
    have hr := h r (List.mem_cons_self ..)
    rw [List.flatten_cons, List.getElem?_append_right (by rw [hr, Nat.succ_mul]; omega), hr, show (i + 1) * m + j - m = i * m + j by rw [Nat.succ_mul]; omega,
      flat_get (fun r hr => h r (List.mem_cons_of_mem _ hr)) (by simpa using hi) hj]; rfl
theorem flat_cells {m : Nat} {l : List (List Int)} (h : All m l) {i : Nat} (hi : i < l.length) : ∀ (j : Nat) v, (ints (rw_ l i))[j]? = some v → (ints l.flatten)[i * m + j]? = some v := by
  intro j v e
  have hj : j < m := by have := (List.getElem?_eq_some_iff.1 e).1; rw [ints_length, rw_len h hi] at this; exact this
  unfold ints at *
  rw [List.getElem?_map] at *
  rw [flat_get h hi hj]; exact e
theorem row_part {H : AHeap} {k o : Nat} {ro : Bool} {cs vs : List Value} (hk : hget H k = .row ro cs) (h : ∀ (j : Nat) v, vs[j]? = some v → cs[o + j]? = some v) : ∀ (j : Nat) v, vs[j]? = some v → hcell H k (o + j) = some v :=
  fun j v e => row_cell hk (h j v e)
theorem All.set {m : Nat} {l : List (List Int)} (h : All m l) {r : List Int} (hr : r.length = m) (i : Nat) : All m (l.set i r) := by
  intro x hx
  rcases List.mem_or_eq_of_mem_set hx with hx | rfl
  · exact h x hx
  · exact hr
theorem flat_setMany {m : Nat} {l : List (List Int)} (h : All m l) {r : List Int} (hr : r.length = m) {i : Nat} (hi : i < l.length) : setMany (ints l.flatten) (i * m) (ints r) = ints (l.set i r).flatten := by
  have hb : i * m + m ≤ l.length * m := by rw [← Nat.succ_mul]; exact Nat.mul_le_mul_right _ hi
  have hL : (ints l.flatten).length = l.length * m := by rw [ints_length, flat_len h]
  have hL' : (ints (l.set i r).flatten).length = l.length * m := by rw [ints_length, flat_len (h.set hr i), List.length_set]
  apply List.ext_getElem?
  intro q
  rcases Nat.lt_or_ge q (l.length * m) with hq | hq
  · have hm : 0 < m := by rcases Nat.eq_zero_or_pos m with rfl | h; · simp at hq
                          · exact h
    have hd : q / m < l.length := Nat.div_lt_of_lt_mul (by rw [Nat.mul_comm]; exact hq)
    have hqe : q = q / m * m + q % m := by rw [Nat.mul_comm]; exact (Nat.div_add_mod q m).symm
    have hj := Nat.mod_lt q hm
    have rhs : (ints (l.set i r).flatten)[q]? = (ints (rw_ (l.set i r) (q / m)))[q % m]? := by
      unfold ints; rw [List.getElem?_map, List.getElem?_map]; congr 1
      conv => lhs; rw [hqe]
      exact flat_get (h.set hr i) (by rw [List.length_set]; exact hd) hj
    rw [rhs]
    by_cases he : q / m = i
    · have h1 := setMany_in (ints r) (ints l.flatten) (i * m) (q % m) (by rw [hL]; omega) (by rw [ints_length, hr]; exact hj)
      rw [he] at hqe
      rw [← hqe] at h1
      rw [h1, he]
      unfold rw_; rw [List.getD_eq_getElem?_getD, List.getElem?_set_self hi]; rfl
    · have h1 : (setMany (ints l.flatten) (i * m) (ints r))[q]? = (ints l.flatten)[q]? := by
        rcases Nat.lt_or_ge (q / m) i with hlt | hge
        · have : q < i * m := by
            have : (q / m + 1) * m ≤ i * m := Nat.mul_le_mul_right _ hlt
            rw [Nat.add_mul, Nat.one_mul] at this; omega
          exact setMany_lt (ints r) (ints l.flatten) (i * m) q this
        · have : i * m + m ≤ q := by
            have : (i + 1) * m ≤ q / m * m := Nat.mul_le_mul_right _ (by omega)
            rw [Nat.add_mul, Nat.one_mul] at this; omega
          exact setMany_ge (ints r) (ints l.flatten) (i * m) q (by rw [ints_length, hr]; exact this)
      rw [h1]
      unfold ints; rw [List.getElem?_map, List.getElem?_map]; congr 1
      conv => lhs; rw [hqe]
      rw [flat_get h hd hj]
      congr 1
      unfold rw_; rw [List.getD_eq_getElem?_getD, List.getD_eq_getElem?_getD, List.getElem?_set_ne (fun e => he e.symm)]
  · rw [List.getElem?_eq_none (by rw [setMany_length]; omega), List.getElem?_eq_none (by omega)]
end Go.Proofs.Ytocaepkkaihiiaa.Am
