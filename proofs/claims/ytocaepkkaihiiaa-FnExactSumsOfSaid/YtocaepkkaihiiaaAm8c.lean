/-
  An abstract machine over this model's programs, ninth part, its end: a statement whose order is open, by its written order. No condition.
-/
import Derived.Test.YtocaepkkaihiiaaAm8b
namespace Go.Proofs.Ytocaepkkaihiiaa.Am
open Go Go.RowKit
set_option linter.unusedVariables false
set_option linter.unusedSimpArgs false

def cntF (l : List Bool) : Nat := (l.filter (fun b => !b)).length
theorem cntF_set : ∀ (l : List Bool) (k : Nat), l[k]? = some false → cntF l = cntF (l.set k true) + 1
  | [], k, h => by simp at h
  | b :: l, 0, h => by simp at h; subst h; simp [cntF]
  | b :: l, k + 1, h => by
    simp at h
    have := cntF_set l k h
    cases b <;> simp [cntF] at this ⊢ <;> omega
theorem cntF_zero : ∀ (l : List Bool), cntF l = 0 → ∀ (k : Nat) b, l[k]? = some b → b = true
  | [], _, k, b, h => by simp at h
  | c :: l, h0, 0, b, h => by simp at h; subst h; cases c <;> simp [cntF] at h0 ⊢
  | c :: l, h0, k + 1, b, h => by
    simp at h
    cases c with
    | false => simp [cntF] at h0
    | true => exact cntF_zero l (by simpa [cntF] using h0) k b h

section thm
variable {P : Program} {N : Nat} {l : List Oper} {t : Env} {H : AHeap} {es : List Ev} {W : World} {φs : Phi} {ws : World} {dfr : List Deferred}

theorem RInv.done (F : Facts P N l t H es) {S : Nat → Prop} (hall : ∀ k, k < l.length → S k) {a : Act} {w : World} {φ : Phi} {c : Nat → AObj} {s : Nat} (I : RInv N l t H es W φs ws dfr S a w φ c s) :
    Sim W φ (hAt H es l.length) w ∧ EnvR φ N (eAt l es t l.length) a ∧ Step φs H ws φ (hAt H es l.length) w := by
  have hnw : ∀ u f, es[u]? = some f → f.kd = .write → u < s := fun u f hu hf => (I.wr u f hu hf).1 (hall u (by rw [← F.len]; exact (List.getElem?_eq_some_iff.1 hu).1))
  have hjl : ∀ i j, (hAt H es s).length ≤ i → i < (hAt H es (j + 1)).length → j < l.length := fun i j h1 h2 => by
    rcases Nat.lt_or_ge j l.length with h | h
    · exact h
    · have h4 : es[j]? = none := List.getElem?_eq_none (by rw [F.len]; exact h)
      rw [show hAt H es (j + 1) = H by simp [hAt, h4]] at h2
      have : H.length ≤ (hAt H es s).length := F.mono (Nat.zero_le s) I.sle
      omega
  have hdom : ∀ i L, φ i = some L → i < (hAt H es l.length).length := fun i L hi => by
    rcases I.dom i L hi with h | ⟨j, h1, h2, h3⟩
    · have : H.length ≤ (hAt H es l.length).length := F.mono (Nat.zero_le _) (Nat.le_refl _)
      omega
    · rcases Nat.lt_or_ge j l.length with h | h
      · exact Nat.lt_of_lt_of_le h3 (F.mono (by omega) (Nat.le_refl _))
      · have h4 : es[j]? = none := List.getElem?_eq_none (by rw [F.len]; exact h)
        rw [show hAt H es (j + 1) = H by simp [hAt, h4]] at h3
        have : H.length ≤ (hAt H es l.length).length := F.mono (Nat.zero_le _) (Nat.le_refl _)
        omega
  have hc : ∀ i L, φ i = some L → c i = hget (hAt H es l.length) i := fun i L hi => by
    rcases Nat.lt_or_ge i (hAt H es s).length with h | h
    · rw [I.c1 i L hi h]
      exact (F.chain I.sle (Nat.le_refl _) h fun u f hu hf h1 h2 => by have := hnw u f hu hf; omega).symm
    · rcases I.dom i L hi with h' | ⟨j, h1, h2, h3⟩
      · have : H.length ≤ (hAt H es s).length := F.mono (Nat.zero_le s) I.sle
        omega
      · rw [I.c2 i L j hi h h1 h2 h3]
        have hj := hjl i j h h3
        have hsj : s ≤ j := by
          rcases Nat.lt_or_ge j s with h' | h'
          · have := F.mono (show j + 1 ≤ s by omega) I.sle; omega
          · exact h'
        exact (F.chain (show j + 1 ≤ l.length by omega) (Nat.le_refl _) h3 fun u f hu hf h1 h2 => by have := hnw u f hu hf; omega).symm
  refine ⟨⟨hdom, fun i L hi => by rw [← hc i L hi]; exact I.obj F i L hi, fun i j L M hij ei ej hi hj => I.disj i j L M hij ei ej (by rw [hc i L ei]; exact hi) (by rw [hc j M ej]; exact hj),
    fun i j L M hij ei ej hi hj => I.mdisj i j L M hij ei ej (by rw [hc i L ei]; exact hi) (by rw [hc j M ej]; exact hj), I.base⟩, ⟨I.size, fun x v e => ?_⟩,
    ⟨I.agree, F.mono (Nat.zero_le _) (Nat.le_refl _), I.wsize, I.cells, I.frozen, fun b o hb ho => ?_⟩⟩
  · have hout : ∀ j', l.length ≤ j' → dAt l j' ≠ some x := fun j' hj => by simp [dAt, List.getElem?_eq_none hj]
    rcases eAt_get l.length e with ⟨j, h1, h2, h3, h4⟩ | ⟨h1, h2⟩
    · obtain ⟨v', k1, k2⟩ := I.made j x (hall j h1) h2 (fun j' a b => by
        rcases Nat.lt_or_ge j' l.length with h | h
        · exact h4 j' a h
        · exact hout j' h)
      exact ⟨v', k1, by rw [h3]; exact k2.mono cutφ_le⟩
    · obtain ⟨v', k1, k2⟩ := I.kept x v h1 (fun j' b => by
        rcases Nat.lt_or_ge j' l.length with h | h
        · exact h2 j' h
        · exact hout j' h)
      exact ⟨v', k1, k2.mono cutφ_le⟩
  · obtain ⟨i, L, e1, e2, e3⟩ := ho
    exact I.own b o hb ⟨i, L, e1, by rw [hc i L e1]; exact e2, e3⟩

theorem RInv.congr {S S' : Nat → Prop} (h : ∀ k, S k ↔ S' k) {a : Act} {w : World} {φ : Phi} {c : Nat → AObj} {s : Nat} (I : RInv N l t H es W φs ws dfr S a w φ c s) : RInv N l t H es W φs ws dfr S' a w φ c s := by
  have : S = S' := funext fun k => propext (h k)
  rw [← this]; exact I

/-- one operation more -/
theorem RInv.next (F : Facts P N l t H es) {S : Nat → Prop} {k : Nat} {o : Oper} (R : Ready l S k o) {a : Act} {w : World} {φ : Phi} {c : Nat → AObj} {s : Nat} (I : RInv N l t H es W φs ws dfr S a w φ c s) (Q : Exit → Act → World → Prop) (K : Act → World → Prop)
    (hK : ∀ a' w' φ' c' s', RInv N l t H es W φs ws dfr (fun j => S j ∨ j = k) a' w' φ' c' s' → K a' w') : wpOp P l.toArray Q k K a w := by
  obtain ⟨e, h1, h2, h3, h4, h5⟩ := F.at_ k o R.op
  have hk := (List.getElem?_eq_some_iff.1 R.op).1
  have hv : vAt es k = e.v := by simp [vAt, h1]
  unfold wpOp
  rw [show (l.toArray)[k]? = some o by simpa using R.op]
  dsimp only
  have henv := R.env F I
  unfold OpEv at h5
  cases hkd : e.kd with
  | pure =>
    rw [hkd] at h5
    obtain ⟨g1, g2, g3⟩ := h5
    rw [if_pos (R.wanted F I g1)]
    obtain ⟨v', r1, r2⟩ := g2 _ w a henv
    refine .inl (Does.wp (R := fun u w' => u = v' ∧ w' = w) (Does.of_value r1 ⟨rfl, rfl⟩) ?_)
    rintro _ _ ⟨rfl, rfl⟩
    exact hK _ _ _ _ _ (R.same F I h1 (by rw [hkd]; exact fun h => by cases h) (by rw [hAt_at h1, g3, h2]) h3 (by rw [hv]; exact r2))
  | skip =>
    rw [hkd] at h5
    obtain ⟨g1, g2, g3⟩ := h5
    rw [if_neg (by rw [R.wantedNot F I g1]; simp)]
    exact hK _ _ _ _ _ (R.same F I h1 (by rw [hkd]; exact fun h => by cases h) (by rw [hAt_at h1, g3, h2]) h3 (by rw [hv, g2]; exact V.flat undef_flat))
  | read cs =>
    rw [hkd] at h5
    obtain ⟨g1, g2, g3, g4⟩ := h5
    rw [if_pos (R.wanted F I g1)]
    have hnw : e.kd ≠ .write := by rw [hkd]; exact fun h => by cases h
    have hcell : ∀ cc ∈ cs, ∀ L, cutφ φ (hAt H es k).length cc.1 = some L → c cc.1 = hget e.H cc.1 := fun cc hcc L hL => by
      obtain ⟨q1, q2⟩ := cutφ_some hL
      rw [h2]
      refine R.readCell F I h1 h2 q2 q1 hnw fun u f hu hf hun hlt => ?_
      have := F.dyn k e h1 u f hu hf hun
      rw [hkd] at this
      exact this cc hcc hlt
    obtain ⟨v', r1, r2⟩ := g2 (fun i q => if ∃ cc ∈ cs, cc.1 = i ∧ cc.2.1 = q then Am.hcell e.H i q else none) (cutφ φ (hAt H es k).length) w a
      (fun cc hcc => (if_pos ⟨cc, hcc, rfl, rfl⟩).trans (g3 cc hcc).1)
      (fun i q u L hL hu => by
        have hu' : (if ∃ cc ∈ cs, cc.1 = i ∧ cc.2.1 = q then Am.hcell e.H i q else none) = some u := hu
        split at hu'
        · rename_i hex
          obtain ⟨cc, hcc, rfl, rfl⟩ := hex
          have hcc' := hcell cc hcc L hL
          obtain ⟨q1, q2⟩ := cutφ_some hL
          have hb := (g3 cc hcc).2
          rw [(g3 cc hcc).1] at hu'
          obtain rfl := Option.some.inj hu'
          have := I.obj F cc.1 L q2
          rw [hcc'] at this
          have hu2 := (g3 cc hcc).1
          unfold Am.hcell at hu2
          cases ho : hget e.H cc.1 with
          | dead => rw [ho] at hu2; cases hu2
          | row ro cells =>
            rw [ho] at hu2 this
            obtain ⟨u', k1, k2⟩ := this.reads _ _ hu2
            exact ⟨u', k1, by rw [← h2]; exact k2.beneath hb⟩
          | map es => rw [ho] at hu2; cases hu2
        · cases hu') henv.get
    refine .inl (Does.wp (R := fun u w' => u = v' ∧ w' = w) (Does.of_value r1 ⟨rfl, rfl⟩) ?_)
    rintro _ _ ⟨rfl, rfl⟩
    exact hK _ _ _ _ _ (R.same F I h1 hnw (by rw [hAt_at h1, g4, h2]) h3 (by rw [hv]; exact r2))
  | alloc cells =>
    rw [hkd] at h5
    obtain ⟨g1, g2, g3⟩ := h5
    rw [if_pos (R.wanted F I g1)]
    obtain ⟨v', cs, T, r1, r2, r3, r4⟩ := g2 _ w a henv
    obtain ⟨φ', c', hI⟩ := R.made' F I h1 h2 hkd g3 h3 (v' := v') (T := T) r2 r3 r4 (fun u f hu hf hun hku => by
      have := F.dyn k e h1 u f hu hf hun
      rw [hkd] at this
      exact this hku)
    refine .inl (Does.wp (R := fun u w' => u = v' ∧ w' = w.alloc (.cells cs T)) (Does.of_value r1 ⟨rfl, rfl⟩) ?_)
    rintro _ _ ⟨rfl, rfl⟩
    exact hK _ _ _ _ _ hI
  | write =>
    rw [hkd] at h5
    obtain ⟨g1, g2, g3⟩ := h5
    rw [if_pos (R.wanted F I g1)]
    obtain ⟨r1, r2⟩ := R.wrote F I h1 h2 hkd h3
    refine .inl (Does.wp (g2 W _ w a r1 henv) ?_)
    rintro v' w' ⟨φ₂, q1, q2, q3⟩
    obtain ⟨φ', c', s', hI⟩ := r2 φ₂ w' v' q1 q2 q3
    exact hK _ _ _ _ _ hI

theorem RInv.any (F : Facts P N l t H es) {Q : Exit → Env → AHeap → Prop} {φ₀ : Phi} {H₀ : AHeap} {w₀ : World} (hst : Step φ₀ H₀ w₀ φs H ws) (hQ : Q .normal (eAt l es t l.length) (hAt H es l.length)) :
    ∀ (fuel : Nat) (listed : Array Bool) (a : Act) (w : World) (φ : Phi) (c : Nat → AObj) (s : Nat), listed.size = l.length → cntF listed.toList = fuel →
      (∀ m o', listed.getD m false = true → l[m]? = some o' → ∀ e ∈ o'.after.toList, Region.binds .any e = true → listed.getD e.on false = true) →
      RInv N l t H es W φs ws dfr (fun k => listed.getD k false = true) a w φ c s → wpAny P .any l.toArray (Post W φ₀ H₀ w₀ N dfr Q) fuel listed a w := by
  intro fuel
  have hend : ∀ (listed : Array Bool) (a : Act) (w : World) (φ : Phi) (c : Nat → AObj) (s : Nat), listed.size = l.length → (∀ k, k < l.length → listed.getD k false = true) →
      RInv N l t H es W φs ws dfr (fun k => listed.getD k false = true) a w φ c s → Post W φ₀ H₀ w₀ N dfr Q .normal a w := fun listed a w φ c s hsz hall I => by
    obtain ⟨h1, h2, h3⟩ := I.done F hall
    exact ⟨I.defers, φ, _, _, h1, h2, hst.trans h3, hQ⟩
  have hallof : ∀ (listed : Array Bool), listed.size = l.length →
      (∀ m o', listed.getD m false = true → l[m]? = some o' → ∀ e ∈ o'.after.toList, Region.binds .any e = true → listed.getD e.on false = true) → Region.ready .any l.toArray listed = [] → ∀ k, k < l.length → listed.getD k false = true := by
    intro listed hsz hcl hr k
    induction k using Nat.strongRecOn with
    | _ k ih =>
      intro hk
      cases hb : listed.getD k false with
      | true => rfl
      | false =>
        exfalso
        have e1 := List.getElem?_eq_getElem hk
        have hkt : listed.getD k true = false := by
          have hks : k < listed.size := by omega
          simp [Array.getD, hks] at hb ⊢; exact hb
        have : k ∈ Region.ready .any l.toArray listed := mem_ready.2 ⟨hkt, l[k], by simp [hk], fun e he hbd => ih e.on (F.back k _ e1 e (by simpa using he) hbd) (by have := F.back k _ e1 e (by simpa using he) hbd; omega)⟩
        rw [hr] at this; cases this
  induction fuel with
  | zero =>
    intro listed a w φ c s hsz hcnt hcl I
    have hall : ∀ k, k < l.length → listed.getD k false = true := fun k hk => by
      have hk' : k < listed.size := by omega
      have := cntF_zero _ hcnt k listed[k] (by simp [hk'])
      simp [Array.getD, hk', this]
    refine ⟨?_, hend listed a w φ c s hsz hall I⟩
    cases hr : Region.ready .any l.toArray listed with
    | nil => rfl
    | cons i r =>
      exfalso
      have hmem : i ∈ Region.ready .any l.toArray listed := by rw [hr]; simp
      obtain ⟨h1, o, h2, _⟩ := mem_ready.1 hmem
      have hi : i < l.length := by have h2' : l[i]? = some o := by simpa using h2
                                   exact (List.getElem?_eq_some_iff.1 h2').1
      have := hall i hi
      have hi' : i < listed.size := by omega
      simp [Array.getD, hi'] at h1 this
      rw [h1] at this; cases this
  | succ fuel ih =>
    intro listed a w φ c s hsz hcnt hcl I
    refine ⟨fun hr => hend listed a w φ c s hsz (hallof listed hsz hcl hr) I, fun i hi => ?_⟩
    obtain ⟨h1, o, h2, h3⟩ := mem_ready.1 hi
    have h2' : l[i]? = some o := by simpa using h2
    have hil : i < l.length := (List.getElem?_eq_some_iff.1 h2').1
    have hi' : i < listed.size := by omega
    have h1f : listed.getD i false = false := by simp [Array.getD, hi'] at h1 ⊢; exact h1
    have R : Ready l (fun k => listed.getD k false = true) i o := ⟨h2', by rw [h1f]; simp, fun e he hb => h3 e (by simpa using he) hb, hcl⟩
    have hset : ∀ k, (listed.setIfInBounds i true).getD k false = true ↔ (listed.getD k false = true ∨ k = i) := fun k => by
      by_cases hk : k = i
      · subst hk; simp [Array.getD, hi']
      · simp only [Array.getD, Array.size_setIfInBounds]
        by_cases hks : k < listed.size
        · simp [hks, hk, Array.getElem_setIfInBounds, Ne.symm hk]
        · simp [hks, hk]
    refine I.next F R _ _ fun a' w' φ' c' s' I' => ?_
    refine ih (listed.setIfInBounds i true) a' w' φ' c' s' (by simpa using hsz) ?_ ?_ (I'.congr fun k => (hset k).symm)
    · have hg : listed.toList[i]? = some false := by
        have : listed[i] = false := by simp [Array.getD, hi'] at h1f; exact h1f
        simp [hi', this]
      have := cntF_set _ i hg
      simp only [Array.toList_setIfInBounds]
      omega
    · intro m o' hm ho' e he hb
      rw [hset] at hm ⊢
      rcases hm with hm | rfl
      · exact .inl (hcl m o' hm ho' e he hb)
      · rw [h2'] at ho'; obtain rfl := Option.some.inj ho'
        exact .inl (h3 e (by simpa using he) hb)

end thm

/-- **A statement whose order of operations is open**: the written order serves. -/
theorem AWp.drawn {P : Program} {N : Nat} {id : Nat} {l : List Oper} {t : Env} {H : AHeap} {Q : Exit → Env → AHeap → Prop} (es : List Ev) (hm : P.follows .mixedOrders = true) (htr : Trace P N l.toArray l t H es)
    (hst : staticOk l l.toArray (es.map (·.kd.isWrite)) = true) (hdyn : dynOk l es) (hQ : Q .normal (eAt l es t l.length) (hAt H es l.length)) : AWp P N (.region id l.toArray true) t H Q := by
  intro W φ₀ H₀ w₀ dfr φ w a hs he hstp hdf
  have F := Facts.mk' htr hst hdyn
  refine wp_region_any hm ?_
  have hs' := hs.drew
  have hstp' := hstp.trans (Step.drew φ H w)
  have hcut : ∀ v v', V φ v v' → V (cutφ φ H.length) v v' := fun v v' h => h.mono fun i L e => by unfold cutφ; rw [if_pos (hs.dom i L e)]; exact e
  have hrep : ∀ k, (Array.replicate l.toArray.size false).getD k false = false := fun k => by simp [Array.getD]
  refine RInv.any (φs := φ) (ws := w.drew) (W := W) (dfr := dfr) F hstp' hQ l.toArray.size (Array.replicate l.toArray.size false) a w.drew φ (hget H) 0 (by simp) ?_ ?_ ?_
  · simp [cntF]
  · intro m o' h; rw [hrep] at h; cases h
  · have hno : ∀ k, (Array.replicate l.toArray.size false).getD k false = true → False := fun k h => by rw [hrep] at h; cases h
    refine { defers := hdf, size := he.size, wr := fun u e hu hk => ⟨fun h => (hno u h).elim, fun h => by omega⟩, sle := Nat.zero_le _,
             made := fun j x h => (hno j h).elim, kept := fun x v e _ => ?_, dom := fun i L e => .inl (hs.dom i L e), c1 := fun i L e h => rfl,
             c2 := fun i L j e h hj => (hno j hj).elim, obj1 := fun i L e h => ?_, obj2 := fun i L j e h hj => (hno j hj).elim,
             disj := hs'.disj, mdisj := hs'.mdisj, base := hs'.base, agree := fun _ _ => rfl, wsize := Nat.le_refl _, cells := fun _ _ _ _ => rfl, frozen := fun _ _ _ _ => rfl, own := fun b o hb h => h }
    · obtain ⟨v', h1, h2⟩ := he.get x v e
      exact ⟨v', h1, hcut _ _ h2⟩
    · exact (hs'.obj i L e).mono fun i L e => by unfold cutφ; rw [if_pos (show i < (hAt H es 0).length from hs.dom i L e)]; exact e

end Go.Proofs.Ytocaepkkaihiiaa.Am
