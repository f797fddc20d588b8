/-
  An abstract machine over this model's programs, fourth part: memory that is written, moved, forgotten. No condition.
-/
import Derived.Test.YtocaepkkaihiiaaAm2
namespace Go.Proofs.Ytocaepkkaihiiaa.Am
open Go Go.RowKit
set_option linter.unusedVariables false
set_option linter.unusedSimpArgs false

/-- w' is w but for cells lo.. of block b below hi. -/
structure Wrote (w w' : World) (b lo hi : Nat) : Prop where
  cell : ∀ b' o, ¬ (b' = b ∧ lo ≤ o ∧ o < hi) → w'.cell? ⟨b', o, none⟩ = w.cell? ⟨b', o, none⟩
  there : ∀ o, lo ≤ o → o < hi → ∃ u, w'.cell? ⟨b, o, none⟩ = some u
  frozen : ∀ b' o, w'.frozen? ⟨b', o, none⟩ = w.frozen? ⟨b', o, none⟩
  size : w'.heap.size = w.heap.size
  maps : ∀ (b' : Nat) es c, w.heap[b']? = some (.map es c) → w'.heap[b']? = some (.map es c)
  below : ∀ B W, B ≤ b → Below B W w → Below B W w'

theorem map_setCell {w : World} {b : Nat} {es : Array MapEntry} {c : Nat} (h : w.heap[b]? = some (.map es c)) (a : Addr) (v : Value) : (w.setCell a v).heap[b]? = some (.map es c) := by
  simp only [World.setCell, Array.getElem?_modify]
  split
  · rw [h]; rfl
  · exact h

theorem Wrote.nil (w : World) (b lo : Nat) : Wrote w w b lo lo :=
  ⟨fun _ _ _ => rfl, fun o h1 h2 => by omega, fun _ _ => rfl, rfl, fun _ _ _ h => h, fun _ _ _ h => h⟩

theorem storeCells_run {P : Program} (b q : Nat) : ∀ (vs : List Value) (i : Nat) (w : World), (∀ v ∈ vs, oneCell v = true) →
    (∀ j, j < vs.length → (∃ u, w.cell? ⟨b, q + (i + j), none⟩ = some u) ∧ w.frozen? ⟨b, q + (i + j), none⟩ = false) →
    ∃ w', (storeCells ⟨b, q, none⟩ vs i).run P w = .ok () w' ∧ Wrote w w' b (q + i) (q + i + vs.length) ∧ ∀ j v, vs[j]? = some v → w'.cell? ⟨b, q + (i + j), none⟩ = some v
  | [], i, w, _, _ => ⟨w, rfl, by simpa using Wrote.nil w b (q + i), fun j v h => by simp at h⟩
  | v :: rest, i, w, h1, h2 => by
    obtain ⟨⟨u, hu⟩, hf⟩ := h2 0 (by simp)
    simp only [Nat.add_zero] at hu hf
    have hst : (store ((⟨b, q, none⟩ : Addr).add i) v).run P w = .ok () (w.setCell ⟨b, q + i, none⟩ v) := by
      rw [add_none, run_store _ _ _ _ _ ((oneCell_eq v).trans (h1 v (by simp))), hu]
      simp [hf]
    have hother : ∀ b' o, ¬ (b' = b ∧ o = q + i) → (w.setCell ⟨b, q + i, none⟩ v).cell? ⟨b', o, none⟩ = w.cell? ⟨b', o, none⟩ := fun b' o hne =>
      World.cell?_setCell_other _ _ _ _ (fun he => hne (by cases he; exact ⟨rfl, rfl⟩))
    obtain ⟨w', hr, hw, hc⟩ := storeCells_run (P := P) b q rest (i + 1) (w.setCell ⟨b, q + i, none⟩ v) (fun u hu => h1 u (by simp [hu])) (fun j hj => by
      have := h2 (j + 1) (by simp; omega)
      rw [hother b _ (by omega), World.frozen?_setCell, show q + (i + 1 + j) = q + (i + (j + 1)) by omega]
      exact this)
    have hself : w'.cell? ⟨b, q + i, none⟩ = some v := by
      rw [hw.cell b (q + i) (by omega)]
      exact World.cell?_setCell_same _ _ _ hu
    refine ⟨w', ?_, ⟨?_, ?_, ?_, ?_, ?_, ?_⟩, ?_⟩
    · simp only [storeCells, Sem.run_bind, hst, Result.andThen_ok, hr]
    · intro b' o hne
      simp only [List.length_cons] at hne
      rw [hw.cell b' o (by omega), hother b' o (by omega)]
    · intro o ho1 ho2
      simp only [List.length_cons] at ho2
      by_cases he : o = q + i
      · subst he; exact ⟨v, hself⟩
      · exact hw.there o (by omega) (by omega)
    · intro b' o; rw [hw.frozen, World.frozen?_setCell]
    · rw [hw.size]; simp
    · intro b' es c h; exact hw.maps b' es c (map_setCell h _ _)
    · intro B W hB hb; exact hw.below B W hB (hb.setCell hB v)
    · intro j u hj
      cases j with
      | zero => simp at hj; subst hj; exact hself
      | succ j =>
        simp at hj
        rw [show q + (i + (j + 1)) = q + (i + 1 + j) by omega]
        exact hc j u hj

/-- What an owned object's part is made to hold. -/
theorem rewrite_ok {W : World} {φ : Phi} {H : AHeap} {w w' : World} {i : Nat} {L : Loc} {cs cs2 : List Value} {lo hi : Nat} (hs : Sim W φ H w) (hL : φ i = some L) (hi0 : hget H i = .row false cs)
    (hw : Wrote w w' L.block lo hi) (h1 : L.off ≤ lo) (h2 : hi ≤ L.off + L.ext) (hfit : cs2.length ≤ L.ext)
    (hreads : ∀ (j : Nat) c, cs2[j]? = some c → ∃ c', w'.cell? ⟨L.block, L.off + j, none⟩ = some c' ∧ V φ c c') :
    Sim W φ (H.set i (.row false cs2)) w' ∧ Step φ H w φ (H.set i (.row false cs2)) w' := by
  have hlt := hs.dom i L hL
  have hobj := hs.obj i L hL
  rw [hi0] at hobj
  have hB := (hobj.own rfl).1
  have hrow : (hget H i).isRow = true := by rw [hi0]; rfl
  have hsame : hget (H.set i (.row false cs2)) i = .row false cs2 := hget_set_same _ hlt
  have hmm : ∀ j, (hget (H.set i (.row false cs2)) j).isMap = (hget H j).isMap := fun j => by
    by_cases hj : i = j
    · subst hj; rw [hsame, hi0]; rfl
    · rw [hget_set_other _ hj]
  have hrr : ∀ j, (hget (H.set i (.row false cs2)) j).isRow = (hget H j).isRow := fun j => by
    by_cases hj : i = j
    · subst hj; rw [hsame, hi0]; rfl
    · rw [hget_set_other _ hj]
  refine ⟨⟨fun j M e => by simpa using hs.dom j M e, ?_, fun j k M K hjk ej ek hj hk => hs.disj j k M K hjk ej ek (by rw [← hrr]; exact hj) (by rw [← hrr]; exact hk), fun j k M K hjk ej ek hj hk => hs.mdisj j k M K hjk ej ek (by rw [← hmm]; exact hj) (by rw [← hmm]; exact hk), hw.below _ _ hB hs.base⟩, ⟨fun _ _ => rfl, by simp, by rw [hw.size]; omega, ?_, fun b o _ _ => hw.frozen b o, ?_⟩⟩
  · intro j M e
    by_cases hj : i = j
    · subst hj
      rw [hL] at e
      obtain rfl := Option.some.inj e
      rw [hsame]
      refine ⟨hfit, hreads, (by intro h; cases h), fun _ => ⟨hB, by rw [hw.size]; exact (hobj.own rfl).2⟩, fun _ k hk => ?_⟩
      rw [hw.frozen]
      refine ⟨?_, (hobj.there rfl k hk).2⟩
      by_cases hin : lo ≤ L.off + k ∧ L.off + k < hi
      · exact hw.there _ hin.1 hin.2
      · rw [hw.cell _ _ (by omega)]; exact (hobj.there rfl k hk).1
    · rw [hget_set_other _ hj]
      have hoj := hs.obj j M e
      cases ho : hget H j with
      | dead => trivial
      | row ro cells =>
        rw [ho] at hoj
        have hne : ∀ k, k < M.ext → ¬ (M.block = L.block ∧ lo ≤ M.off + k ∧ M.off + k < hi) := by
          intro k hk
          cases ro with
          | true => have := hoj.old rfl; omega
          | false =>
            have := hs.disj i j L M hj hL e hrow (by rw [ho]; rfl)
            unfold Apart at this
            omega
        refine ⟨hoj.fits, fun k c hc => ?_, hoj.old, fun hr => ⟨(hoj.own hr).1, by rw [hw.size]; exact (hoj.own hr).2⟩, fun hr k hk => ?_⟩
        · have hk : k < M.ext := by have := (List.getElem?_eq_some_iff.1 hc).1; have := hoj.fits; omega
          rw [hw.cell _ _ (hne k hk)]; exact hoj.reads k c hc
        · rw [hw.frozen, hw.cell _ _ (hne k hk)]; exact hoj.there hr k hk
      | map es =>
        rw [ho] at hoj
        exact ⟨hoj.off, hoj.ext, ⟨hoj.own.1, by rw [hw.size]; exact hoj.own.2⟩, hoj.flat, hw.maps _ _ _ hoj.holds⟩
  · intro b o hb hn
    refine hw.cell b o fun h => hn ⟨i, L, hL, hrow, h.1.symm, by omega, by omega⟩
  · rintro b o hb ⟨j, M, e, hr, r⟩
    exact ⟨j, M, e, by rw [← hrr]; exact hr, r⟩

def setMany : List Value → Nat → List Value → List Value
  | cs, _, [] => cs
  | cs, k, v :: vs => setMany (cs.set k v) (k + 1) vs
theorem setMany_length (vs : List Value) : ∀ (cs : List Value) (k : Nat), (setMany cs k vs).length = cs.length := by
  induction vs with
  | nil => intro cs k; rfl
  | cons v vs ih => intro cs k; simp [setMany, ih]
theorem setMany_lt (vs : List Value) : ∀ (cs : List Value) (k j : Nat), j < k → (setMany cs k vs)[j]? = cs[j]? := by
  induction vs with
  | nil => intro cs k j _; rfl
  | cons v vs ih => intro cs k j h; simp only [setMany]; rw [ih _ _ _ (by omega), List.getElem?_set_ne (by omega)]
theorem setMany_ge (vs : List Value) : ∀ (cs : List Value) (k j : Nat), k + vs.length ≤ j → (setMany cs k vs)[j]? = cs[j]? := by
  induction vs with
  | nil => intro cs k j _; rfl
  | cons v vs ih => intro cs k j h; simp only [List.length_cons] at h; simp only [setMany]; rw [ih _ _ _ (by omega), List.getElem?_set_ne (by omega)]
theorem setMany_in (vs : List Value) : ∀ (cs : List Value) (k j : Nat), k + j < cs.length → j < vs.length → (setMany cs k vs)[k + j]? = vs[j]? := by
  induction vs with
  | nil => intro cs k j _ h; simp at h
  | cons v vs ih =>
    intro cs k j h1 h2
    simp only [setMany]
    cases j with
    | zero => rw [Nat.add_zero, setMany_lt _ _ _ _ (by omega)]; simp [show k < cs.length by omega]
    | succ j => rw [show k + (j + 1) = k + 1 + j by omega, ih _ _ _ (by simp only [List.length_set]; omega) (by simpa using h2)]; simp

/-- Values that are stored into an owned row. -/
theorem store_ok {P : Program} {W : World} {φ : Phi} {H : AHeap} {w : World} {i o : Nat} {L : Loc} {cs vs vs' : List Value} (hs : Sim W φ H w) (hL : φ i = some L) (hi0 : hget H i = .row false cs)
    (hfit : o + vs.length ≤ cs.length) (hlen : vs'.length = vs.length) (hV : ∀ (j : Nat) v v', vs[j]? = some v → vs'[j]? = some v' → V φ v v') (h1 : ∀ v ∈ vs, oneCell v = true) :
    ∃ w', (storeCells ⟨L.block, L.off + o, none⟩ vs' 0).run P w = .ok () w' ∧ Sim W φ (H.set i (.row false (setMany cs o vs))) w' ∧ Step φ H w φ (H.set i (.row false (setMany cs o vs))) w' := by
  have hobj := hs.obj i L hL
  rw [hi0] at hobj
  have hext := hobj.fits
  have h1' : ∀ v ∈ vs', oneCell v = true := by
    intro v' hv'
    obtain ⟨j, hj, e⟩ := List.getElem_of_mem hv'
    have hj2 : j < vs.length := by omega
    have := hV j _ _ (List.getElem?_eq_getElem hj2) (List.getElem?_eq_getElem hj)
    rw [e] at this
    rw [this.oneCell]; exact h1 _ (List.getElem_mem hj2)
  obtain ⟨w', hr, hw, hc⟩ := storeCells_run (P := P) L.block (L.off + o) vs' 0 w h1' (fun j hj => by
    have := hobj.there rfl (o + j) (by omega)
    rw [show L.off + o + (0 + j) = L.off + (o + j) by omega]; exact this)
  rw [Nat.add_zero] at hw
  refine ⟨w', hr, rewrite_ok hs hL hi0 hw (by omega) (by omega) (by rw [setMany_length]; omega) ?_⟩
  intro j c hj
  rcases Nat.lt_or_ge j o with h | h
  · rw [setMany_lt _ _ _ _ h] at hj
    rw [hw.cell _ _ (by omega)]; exact hobj.reads j c hj
  · rcases Nat.lt_or_ge j (o + vs.length) with h' | h'
    · have hk : j = o + (j - o) := by omega
      rw [hk, setMany_in _ _ _ _ (by omega) (by omega)] at hj
      have hk' : j - o < vs'.length := by omega
      refine ⟨vs'[j - o], ?_, hV _ _ _ hj (List.getElem?_eq_getElem hk')⟩
      have := hc (j - o) _ (List.getElem?_eq_getElem hk')
      rw [show L.off + o + (0 + (j - o)) = L.off + j by omega] at this
      exact this
    · rw [setMany_ge _ _ _ _ h'] at hj
      rw [hw.cell _ _ (by omega)]; exact hobj.reads j c hj

/-- An object that is spoken of no more. -/
theorem kill_ok {W : World} {φ : Phi} {H : AHeap} {w : World} (i : Nat) (hs : Sim W φ H w) : Sim W φ (H.set i .dead) w ∧ Step φ H w φ (H.set i .dead) w := by
  have key : ∀ j, hget (H.set i .dead) j = .dead ∨ hget (H.set i .dead) j = hget H j := fun j => by
    by_cases hj : i = j
    · subst hj
      rcases Nat.lt_or_ge i H.length with h | h
      · exact .inl (hget_set_same _ h)
      · exact .inl (hget_ge (by simpa using h))
    · exact .inr (hget_set_other _ hj)
  have mine : ∀ j, (hget (H.set i .dead) j).isRow = true → (hget H j).isRow = true := fun j h => by
    rcases key j with e | e
    · rw [e] at h; cases h
    · rw [← e]; exact h
  have mmine : ∀ j, (hget (H.set i .dead) j).isMap = true → (hget H j).isMap = true := fun j h => by
    rcases key j with e | e
    · rw [e] at h; cases h
    · rw [← e]; exact h
  refine ⟨⟨fun j M e => by simpa using hs.dom j M e, ?_, fun j k M K hjk ej ek hj hk => hs.disj j k M K hjk ej ek (mine j hj) (mine k hk), fun j k M K hjk ej ek hj hk => hs.mdisj j k M K hjk ej ek (mmine j hj) (mmine k hk), hs.base⟩, ⟨fun _ _ => rfl, by simp, Nat.le_refl _, fun _ _ _ _ => rfl, fun _ _ _ _ => rfl, ?_⟩⟩
  · intro j M e
    rcases key j with h | h
    · rw [h]; trivial
    · rw [h]; exact hs.obj j M e
  · rintro b o hb ⟨j, M, e, hr, r⟩
    refine ⟨j, M, e, ?_, r⟩
    rcases key j with h | h
    · rw [h] at hr; cases hr
    · rw [← h]; exact hr

/-- An owned object that goes on under a new number, from its place 'o' on, with other cells. -/
theorem move_ok {W : World} {φ : Phi} {H : AHeap} {w : World} {i o : Nat} {L : Loc} {cs cs2 : List Value} (hs : Sim W φ H w) (hL : φ i = some L) (hi0 : hget H i = .row false cs)
    (ho : o + cs2.length ≤ L.ext) (hreads : ∀ (j : Nat) c, cs2[j]? = some c → ∃ c', w.cell? ⟨L.block, L.off + o + j, none⟩ = some c' ∧ V φ c c') :
    ∃ φ', Sim W φ' (H.set i .dead ++ [.row false cs2]) w ∧ Step φ H w φ' (H.set i .dead ++ [.row false cs2]) w ∧ φ' H.length = some ⟨L.block, L.off + o, L.ext - o⟩ ∧ ∀ i L, φ i = some L → φ' i = some L := by
  have hlt := hs.dom i L hL
  have hobj := hs.obj i L hL
  rw [hi0] at hobj
  have hrow : (hget H i).isRow = true := by rw [hi0]; rfl
  obtain ⟨ks, kst⟩ := kill_ok i hs
  have hlen : (H.set i AObj.dead).length = H.length := by simp
  have hfresh : φ H.length = none := by
    cases e : φ H.length with
    | none => rfl
    | some L => exact absurd (hs.dom _ _ e) (Nat.lt_irrefl _)
  let φ' : Phi := fun j => if j = H.length then some ⟨L.block, L.off + o, L.ext - o⟩ else φ j
  have hm : ∀ j M, φ j = some M → φ' j = some M := fun j M e => by
    have : j ≠ H.length := fun he => by rw [he, hfresh] at e; cases e
    simp [φ', this, e]
  have hnew : φ' H.length = some ⟨L.block, L.off + o, L.ext - o⟩ := by simp [φ']
  have hother : ∀ j, j ≠ H.length → φ' j = φ j := fun j hj => by simp [φ', hj]
  have hgn : hget (H.set i AObj.dead ++ [AObj.row false cs2]) H.length = .row false cs2 := by rw [← hlen]; exact hget_len _ _
  have hgo : ∀ j, j < H.length → hget (H.set i AObj.dead ++ [AObj.row false cs2]) j = hget (H.set i AObj.dead) j := fun j hj => hget_append_lt (by rw [hlen]; exact hj)
  have hal : ∀ j M, φ j = some M → (hget (H.set i AObj.dead) j).isRow = true → Apart ⟨L.block, L.off + o, L.ext - o⟩ M := by
    intro j M e hj
    have hji : i ≠ j := fun he => by subst he; rw [hget_set_same _ hlt] at hj; cases hj
    rw [hget_set_other _ hji] at hj
    have := hs.disj i j L M hji hL e hrow hj
    unfold Apart at *
    dsimp only
    omega
  refine ⟨φ', ⟨?_, ?_, ?_, ?_, hs.base⟩, ⟨fun j hj => hother j (Nat.ne_of_lt hj), by simp, Nat.le_refl _, fun _ _ _ _ => rfl, fun _ _ _ _ => rfl, ?_⟩, hnew, hm⟩
  · intro j M e
    by_cases hj : j = H.length
    · subst hj; simp
    · rw [hother j hj] at e; have := hs.dom j M e; simp; omega
  · intro j M e
    by_cases hj : j = H.length
    · subst hj
      rw [hnew] at e; obtain rfl := Option.some.inj e
      rw [hgn]
      refine ⟨by dsimp only; omega, fun k c hk => ?_, (by intro h; cases h), fun _ => hobj.own rfl, fun _ k hk => ?_⟩
      · obtain ⟨c', e1, e2⟩ := hreads k c hk; exact ⟨c', e1, e2.mono hm⟩
      · dsimp only at hk ⊢
        rw [Nat.add_assoc]; exact hobj.there rfl (o + k) (by omega)
    · rw [hother j hj] at e
      have hlj := hs.dom j M e
      rw [hgo j hlj]
      have hoj := ks.obj j M e
      cases hoo : hget (H.set i AObj.dead) j with
      | dead => trivial
      | row ro cells =>
        rw [hoo] at hoj
        exact ⟨hoj.fits, fun k c hc => let ⟨c', e1, e2⟩ := hoj.reads k c hc; ⟨c', e1, e2.mono hm⟩, hoj.old, hoj.own, hoj.there⟩
      | map es => rw [hoo] at hoj; exact hoj
  · intro j k M K hjk ej ek hj hk
    by_cases h1 : j = H.length
    · subst h1
      rw [hnew] at ej; obtain rfl := Option.some.inj ej
      have h2 : k ≠ H.length := fun h => hjk h.symm
      rw [hother k h2] at ek
      rw [hgo k (hs.dom k K ek)] at hk
      exact hal k K ek hk
    · by_cases h2 : k = H.length
      · subst h2
        rw [hnew] at ek; obtain rfl := Option.some.inj ek
        rw [hother j h1] at ej
        rw [hgo j (hs.dom j M ej)] at hj
        exact (hal j M ej hj).symm
      · rw [hother j h1] at ej; rw [hother k h2] at ek
        rw [hgo j (hs.dom j M ej)] at hj; rw [hgo k (hs.dom k K ek)] at hk
        exact ks.disj j k M K hjk ej ek hj hk
  · intro j k M K hjk ej ek hj hk
    have h1 : j ≠ H.length := fun h => by subst h; rw [hgn] at hj; cases hj
    have h2 : k ≠ H.length := fun h => by subst h; rw [hgn] at hk; cases hk
    rw [hother j h1] at ej; rw [hother k h2] at ek
    rw [hgo j (hs.dom j M ej)] at hj; rw [hgo k (hs.dom k K ek)] at hk
    exact ks.mdisj j k M K hjk ej ek hj hk
  · rintro b p hb ⟨j, M, e, hr, r1, r2, r3⟩
    by_cases hj : j = H.length
    · subst hj
      rw [hnew] at e; obtain rfl := Option.some.inj e
      dsimp only at r1 r2 r3
      exact ⟨i, L, hL, hrow, r1, by omega, by omega⟩
    · rw [hother j hj] at e
      rw [hgo j (hs.dom j M e)] at hr
      exact kst.own b p hb ⟨j, M, e, hr, r1, r2, r3⟩

end Go.Proofs.Ytocaepkkaihiiaa.Am
