/-
  Bytes that are read wherever a pool holds; sources of draws. No condition.
-/
import Derived.Test.YtdafmafigcljkaaPw
namespace Go.Proofs.Ytdafmafigcljkaa.Am
open Go Go.RowKit
set_option linter.unusedVariables false
set_option linter.unusedSimpArgs false

def bys (l : List Int) : List Value := l.map (.int .u8)
theorem bys_length (l : List Int) : (bys l).length = l.length := by simp [bys]
theorem bys_get {l : List Int} {k : Nat} (h : k < l.length) : (bys l)[k]? = some (.int .u8 (rd l k)) := by
  simp [bys, rd, List.getD, List.getElem?_eq_getElem h]
/-- bytes that lie wherever the pool lies -/
def PV (F : Sg) (p : Option Addr) (c : Nat) (xs : List Int) : Prop := ∀ G : AHeap, (∀ x ∈ F, x.1 < G.length ∧ hget G x.1 = x.2) → Vw G p xs.length c (bys xs)
theorem PV.mono {F' F : Sg} {p : Option Addr} {c : Nat} {xs : List Int} (hF : Pin F' F) (h : PV F p c xs) : PV F' p c xs := fun G hG => h G fun x hx => hG x (hF x hx)
theorem St.pvview {M : List Nat} {H G : AHeap} {L : List Sg} {F : Sg} {k c : Nat} {p : Option Addr} {xs : List Int} (S : St M H G L) (h : L[k]? = some F) (hp : PV F p c xs) : Vw G p xs.length c (bys xs) := hp G fun x hx => (S.own _ (S.mem h hx)).2
theorem pv_of {H : AHeap} {p : Option Addr} {c : Nat} {xs : List Int} (h : Vw H p xs.length c (bys xs)) : ∃ F : Sg, ((([F] : List Sg)).flatten.map (·.1)).Nodup ∧ (∀ x ∈ ([F] : List Sg).flatten, x.1 < H.length ∧ hget H x.1 = x.2) ∧ PV F p c xs := by
  rcases h.inn with ⟨h1, h2, h3⟩ | ⟨i, o, rfl, hi⟩
  · refine ⟨[], by simp, fun x hx => absurd hx (by simp), fun G _ => ⟨.inl ⟨h1, h2, h3⟩, fun hne => ?_, fun j v e => ?_⟩⟩
    · exact absurd (List.eq_nil_of_length_eq_zero (by rw [bys_length]; exact h2)) hne
    · have := (List.getElem?_eq_some_iff.1 e).1
      rw [bys_length, h2] at this; exact absurd this (Nat.not_lt_zero _)
  · refine ⟨[(i, hget H i)], by simp, fun x hx => ?_, fun G hG => ?_⟩
    · simp at hx; subst hx; exact ⟨hi, rfl⟩
    · have hg := hG (i, hget H i) (List.mem_singleton.2 rfl)
      exact ⟨.inr ⟨i, o, rfl, hg.1⟩, h.at_, fun j v e => (hcell_same hg.2).trans (h.get j v e)⟩
/-! pieces of a slice of one's own -/
def subp (p : Option Addr) (n l : Nat) : Option Addr := if 0 < n then some (Addr.mk (blk p) (off p + l) none) else p
def subd (c n l : Nat) : Nat := if 0 < n then subc c n l else c
section
variable {P : Program} {N : Nat} {t : Env} {d : Option Tmp} {ty : TypeId} {pos : String} {af : Array Edge} {g : Option (Nat × Bool)}
theorem p_subT {T : TypeId} {x y : Operand} {E : TypeId} {m n c : Nat} {kl : IntKind} {z : Int} {p : Option Addr} (hT : P.underlying T = some (.slice E)) (hm : ∀ w, (sizeOf E).run P w = .ok m w) (hmU : Nat.blt m 1000000 = true) (hx : aEv t x = some (.slice p n c)) (hs : Sb p n c m) (hy : aEv t y = some (.int kl z))
    (hz : 0 ≤ z ∧ z ≤ ((n : Nat) : Int)) : PureOk P N ⟨d, .slice T x none (some y) none, ty, pos, af, g⟩ t (.slice p z.toNat c) := by
  obtain ⟨h0, h1⟩ := hz
  generalize hl : z.toNat = l
  have hzl : z = (l : Int) := by omega
  subst hzl
  have hln : l ≤ n := by omega
  by_cases hn : 0 < n
  · have hp := hs.at hn
    rw [hp] at hx ⊢
    have := p_slice (P := P) (N := N) (d := d) (ty := ty) (pos := pos) (af := af) (g := g) (kl := .i64) (l := 0) hx (.inl ⟨rfl, rfl⟩) (.inr ⟨y, rfl, hy⟩) hT hm (Nat.zero_le _) hln hn hs.cu
    simpa using this
  · obtain rfl : n = 0 := by omega
    obtain rfl : l = 0 := by omega
    rcases hs with ⟨rfl, _, rfl⟩ | ⟨i, rfl, hc⟩
    · intro φ w a he
      obtain ⟨_, _, e⟩ := (ev_ok he hx).inv_nilSlice
      refine ⟨.slice none 0 0, ?_, .nilSlice⟩
      simp [execOp, e, Instr.sliceAt, Instr.slice, run_underlying hT, Instr.sliceBounds, Instr.sliceBound, asIntOf, ev_int he hy, hm]
    · intro φ w a he
      have hne : c ≠ capE := by
        rw [Nat.blt_eq] at hmU
        rcases hc with hc | ⟨hc, _⟩ <;> unfold capE <;> unfold capU at * <;> omega
      obtain ⟨L, c', hL, e, hc1, hu, hn1⟩ := (ev_ok he hx).inv_slice (.inr hne)
      refine ⟨.slice (some ⟨L.block, L.off + 0, none⟩) 0 c', ?_, .slice i 0 0 c L c' hL hc1 hu hn1⟩
      simp [execOp, e, Instr.sliceAt, Instr.slice, run_underlying hT, Instr.sliceBounds, Instr.sliceBound, asIntOf, ev_int he hy, hm, add_none]
theorem p_subD {T : TypeId} {x y : Operand} {E : TypeId} {n c : Nat} {kl : IntKind} {z : Int} {p : Option Addr} (hT : P.underlying T = some (.slice E)) (hm : ∀ w, (sizeOf E).run P w = .ok 1 w) (hx : aEv t x = some (.slice p n c)) (hs : Sb p n c 1) (hy : aEv t y = some (.int kl z))
    (hz : 0 ≤ z ∧ z ≤ ((n : Nat) : Int)) : PureOk P N ⟨d, .slice T x (some y) none none, ty, pos, af, g⟩ t (.slice (subp p n z.toNat) (n - z.toNat) (subd c n z.toNat)) := by
  unfold subp subd
  by_cases hn : 0 < n
  · rw [if_pos hn, if_pos hn]
    have hp : p = some ⟨blk p, off p, none⟩ := by
      obtain h := hs.at hn
      rw [h]; rfl
    have := p_subl (P := P) (N := N) (d := d) (ty := ty) (pos := pos) (af := af) (g := g) hT hm hx hp hy ⟨hz.1, hz.2, hn⟩ hs.cu
    simpa using this
  · rw [if_neg hn, if_neg hn]
    obtain rfl : n = 0 := by omega
    obtain rfl : z = 0 := by omega
    rcases hs with ⟨rfl, _, rfl⟩ | ⟨i, rfl, hc⟩
    · intro φ w a he
      obtain ⟨_, _, e⟩ := (ev_ok he hx).inv_nilSlice
      refine ⟨.slice none 0 0, ?_, .nilSlice⟩
      simp [execOp, e, Instr.sliceAt, Instr.slice, run_underlying hT, Instr.sliceBounds, Instr.sliceBound, asIntOf, ev_int he hy, hm]
    · intro φ w a he
      have hne : c ≠ capE := by
        rcases hc with hc | ⟨hc, _⟩ <;> unfold capE <;> unfold capU at * <;> omega
      obtain ⟨L, c', hL, e, hc1, hu, hn1⟩ := (ev_ok he hx).inv_slice (.inr hne)
      refine ⟨.slice (some ⟨L.block, L.off + 0, none⟩) 0 c', ?_, .slice i 0 0 c L c' hL hc1 hu hn1⟩
      simp [execOp, e, Instr.sliceAt, Instr.slice, run_underlying hT, Instr.sliceBounds, Instr.sliceBound, asIntOf, ev_int he hy, hm, add_none]
end
theorem Vw.takeI {G : AHeap} {p : Option Addr} {n c l : Nat} {xs : List Int} (h : Vw G p n c (ints xs)) (hl : xs.length = n) (hn : l ≤ n) : Vw G p l c (ints (xs.take l)) := by
  refine ⟨?_, fun hne => h.at_ fun e => hne ?_, fun j v e => h.get j v ?_⟩
  · rcases h.inn with ⟨h1, h2, h3⟩ | h1
    · exact .inl ⟨h1, by omega, h3⟩
    · exact .inr h1
  · have : xs = [] := by cases xs with
      | nil => rfl
      | cons a b => simp [ints] at e
    rw [this, List.take_nil]; rfl
  · unfold ints at e ⊢
    rw [List.map_take] at e
    have := (List.getElem?_eq_some_iff.1 e).1
    rw [List.getElem?_take] at e
    split at e
    · exact e
    · cases e
theorem Vw.dropI {G : AHeap} {p : Option Addr} {n c l : Nat} {xs : List Int} (h : Vw G p n c (ints xs)) (hl : xs.length = n) (hn : l ≤ n) : Vw G (subp p n l) (n - l) (subd c n l) (ints (xs.drop l)) := by
  unfold subp subd
  by_cases h0 : 0 < n
  · rw [if_pos h0, if_pos h0]
    have hne : ints xs ≠ [] := fun e => by
      have h1 : (ints xs).length = 0 := by rw [e]; rfl
      rw [ints_length] at h1; omega
    refine ⟨.inr ⟨blk p, _, rfl, ?_⟩, fun _ => rfl, fun j v e => ?_⟩
    · rcases h.inn with ⟨rfl, _, _⟩ | ⟨i, o, rfl, hi⟩
      · have := h.at_ hne; cases this
      · exact hi
    · have e' : (ints xs)[l + j]? = some v := by
        unfold ints at e ⊢
        rw [List.map_drop, List.getElem?_drop] at e
        exact e
      have := h.get _ _ e'
      show hcell G (blk p) (off p + l + j) = some v
      rw [Nat.add_assoc]; exact this
  · rw [if_neg h0, if_neg h0]
    obtain rfl : n = 0 := by omega
    obtain rfl : l = 0 := by omega
    exact h
theorem len_takeI {l n : Nat} {xs : List Int} (hl : xs.length = n) (hn : l ≤ n) : (xs.take l).length = l := by rw [List.length_take]; omega
theorem len_dropI {l n : Nat} {xs : List Int} (hl : xs.length = n) : (xs.drop l).length = n - l := by rw [List.length_drop, hl]
/-! a slice of one's own that is cut short -/
def cutc (n c m : Nat) : Nat := if 0 < n then capU + m else c
def cutH (p : Option Addr) (us : List Value) (G : AHeap) : AHeap := match p with | none => G | some a => G.set a.block (.row false us)
theorem cut_le {p : Option Addr} {us : List Value} {G G' : AHeap} (h : cutH p us G = G') : G.length ≤ G'.length := by
  subst h; unfold cutH; split
  · exact Nat.le_refl _
  · rw [List.length_set]; exact Nat.le_refl _
theorem setAt_same {α : Type} {L : List α} {k : Nat} {a : α} (h : L[k]? = some a) : L.set k a = L := by
  apply List.ext_getElem?
  intro j
  rw [List.getElem?_set]
  by_cases hj : k = j
  · subst hj
    have := (List.getElem?_eq_some_iff.1 h).1
    rw [if_pos rfl, if_pos this, h]
  · rw [if_neg hj]
theorem flat_take {m : Nat} : ∀ {rs : List (List Int)} (hA : All m rs) (z : Nat), (rs.take z).flatten.length ≤ rs.flatten.length ∧ ∀ (j : Nat) v, (ints (rs.take z).flatten)[j]? = some v → (ints rs.flatten)[j]? = some v
  | rs, _, z => by
    have e : rs.flatten = (rs.take z).flatten ++ (rs.drop z).flatten := by rw [← List.flatten_append, List.take_append_drop]
    refine ⟨by rw [e, List.length_append]; omega, fun j v h => ?_⟩
    rw [e]
    unfold ints at h ⊢
    rw [List.map_append, List.getElem?_append_left (List.getElem?_eq_some_iff.1 h).1]; exact h
section
variable {M : List Nat} {H G : AHeap} {L : List Sg} {p : Option Addr} {n c m k z : Nat} {rs : List (List Int)}
theorem Sb.cut (hb : Sb p n c m) (hz : z ≤ n) : Sb p z (cutc n c m) m := by
  unfold cutc
  rcases hb with ⟨h1, rfl, rfl⟩ | ⟨i, rfl, hc⟩
  · exact .inl ⟨h1, by omega, rfl⟩
  · refine .inr ⟨i, rfl, ?_⟩
    by_cases hn : 0 < n
    · rw [if_pos hn]; exact .inl rfl
    · rw [if_neg hn]
      rcases hc with hc | hc
      · exact .inl hc
      · exact .inr ⟨by omega, hc.2⟩
theorem St.cutR (S : St M H G L) (h : L[k]? = some (oseg p (ints rs.flatten))) (hb : Sb p n c m) (hz : z ≤ n) : ∃ G', cutH p (ints (rs.take z).flatten) G = G' ∧ St M H G' (L.set k (oseg p (ints (rs.take z).flatten))) ∧ Sb p z (cutc n c m) m := by
  rcases hb with ⟨rfl, h2, h3⟩ | ⟨i, rfl, hc⟩
  · refine ⟨G, rfl, ?_, Sb.cut (.inl ⟨rfl, h2, h3⟩) hz⟩
    have : L.set k (oseg none (ints (rs.take z).flatten)) = L := setAt_same h
    rw [this]; exact S
  · obtain ⟨G', h1, h2⟩ := S.set h (.row false (ints (rs.take z).flatten))
    exact ⟨G', h1, h2, Sb.cut (.inr ⟨i, rfl, hc⟩) hz⟩
theorem St.cutg (S : St M H G L) (h : L[k]? = some (oseg p (ints rs.flatten))) : ∀ i, p = some ⟨i, 0, none⟩ → hget G i = .row false (ints rs.flatten) := fun i e => by subst e; exact S.get h
end
section
variable {P : Program} {N : Nat} {t : Env} {d : Option Tmp} {ty : TypeId} {pos : String} {af : Array Edge} {g : Option (Nat × Bool)}
theorem s_cut {H G' : AHeap} {T : TypeId} {x y : Operand} {E : TypeId} {m n c : Nat} {kl : IntKind} {z : Int} {p : Option Addr} {rs : List (List Int)} (hT : P.underlying T = some (.slice E)) (hm : ∀ w, (sizeOf E).run P w = .ok m w) (hmU : Nat.blt m 1000000 = true) (hx : aEv t x = some (.slice p n c)) (hs : Sb p n c m) (hy : aEv t y = some (.int kl z))
    (hz : 0 ≤ z ∧ z ≤ ((n : Nat) : Int)) (hg : ∀ i, p = some ⟨i, 0, none⟩ → hget H i = .row false (ints rs.flatten)) (hl : (ints rs.flatten).length = n * m) (hA : All m rs) (hG : cutH p (ints (rs.take z.toNat).flatten) H = G') :
    OpOk P N ⟨d, .slice T x none (some y) none, ty, pos, af, g⟩ t H (.slice p z.toNat (cutc n c m)) G' := by
  have hp := p_subT (P := P) (N := N) (d := d) (ty := ty) (pos := pos) (af := af) (g := g) hT hm hmU hx hs hy hz
  have hzn : z.toNat ≤ n := by omega
  rcases hs with ⟨rfl, rfl, rfl⟩ | ⟨i, rfl, hc⟩
  · subst hG
    exact hp.op H
  · intro W φ w a hsim he
    obtain ⟨v', h1, h2⟩ := hp φ w a he
    have hne : c ≠ capE := by
      rw [Nat.blt_eq] at hmU
      rcases hc with hc | ⟨hc, hc2⟩ <;> unfold capE <;> unfold capU at * <;> omega
    obtain ⟨L, c', hL, e, hc1, hu, hn1⟩ := V.inv_slice h2 (.inr hne)
    have hgi := hg i rfl
    have hobj := hsim.obj i L hL
    rw [hgi] at hobj
    have hf := hobj.fits
    rw [hl] at hf
    obtain ⟨t1, t2⟩ := flat_take hA z.toNat
    have hfit : (ints (rs.take z.toNat).flatten).length ≤ L.ext := by
      rw [ints_length]; rw [ints_length] at hl; omega
    obtain ⟨g1, g2⟩ := rewrite_ok (w' := w) (lo := L.off) (hi := L.off) (cs2 := ints (rs.take z.toNat).flatten) hsim hL hgi ⟨fun _ _ _ => rfl, fun o h3 h4 => absurd h3 (by omega), fun _ _ => rfl, rfl, fun _ _ _ h => h, fun _ _ _ h => h⟩ (Nat.le_refl _) (by omega) hfit (fun j v h => hobj.reads j v (t2 j v h))
    have hGe : H.set i (.row false (ints (rs.take z.toNat).flatten)) = G' := hG
    rw [hGe] at g1 g2
    refine Does.of_value h1 ⟨φ, g1, ?_, g2⟩
    unfold cutc
    by_cases hn : 0 < n
    · rw [if_pos hn, e]
      refine .slice i 0 _ (capU + m) L c' hL (fun h => by omega) (fun m' h => ?_) hn1
      obtain rfl : m = m' := by omega
      rcases hc with hc | ⟨hc, hc2⟩
      · exact hu m hc
      · rw [hc1 hc2, hc]; omega
    · rw [if_neg hn]; exact h2
end
theorem len_takeL {l n : Nat} {xs : List (List Int)} (hl : xs.length = n) (hn : l ≤ n) : (xs.take l).length = l := by rw [List.length_take]; omega
theorem all_take {m l : Nat} {rs : List (List Int)} (h : All m rs) : All m (rs.take l) := fun r hr => h r (List.mem_of_mem_take hr)
end Go.Proofs.Ytdafmafigcljkaa.Am
