/-
  A call that may hand back the very slice that it was handed. No condition.
-/
import Derived.Test.YtdafmafigcljkaaK5
namespace Go.Proofs.Ytdafmafigcljkaa.Am
open Go Go.RowKit
set_option linter.unusedVariables false
set_option linter.unusedSimpArgs false

theorem St.callG {M : List Nat} {H G G' : AHeap} {L : List Sg} {a r : List Int} {p q : Option Addr} {c e : Nat} (S : St M H G (oseg q (ints a) :: L)) (sb : Sb q a.length e 1)
    (h : (St [] G G' [oseg p (ints r)] ∧ Sb p r.length c 1) ∨ (p = q ∧ c = e ∧ r = a ∧ St [] G G' [])) : St M H G' (oseg p (ints r) :: L) ∧ Sb p r.length c 1 := by
  rcases h with ⟨S', sb'⟩ | ⟨rfl, rfl, rfl, S'⟩
  · exact ⟨(S.call S').drop 1 rfl, sb'⟩
  · exact ⟨S.call S', sb⟩
theorem nil_pos {x : List Int} {α : Prop} (h : 0 < x.length) (e : x = []) : α := by subst e; exact absurd h (by simp)
theorem Sb.isNone {p : Option Addr} {x : List Int} {c m : Nat} (h : Sb p x.length c m) (h0 : x = [] → p = none) : p.isNone = decide (x = []) := by
  by_cases e : x = []
  · rw [h0 e, decide_eq_true e]; rfl
  · rw [h.at (List.length_pos_iff.2 e), decide_eq_false e]; rfl
section pure
variable {P : Program} {N : Nat} {t : Env} {d : Option Tmp} {ty : TypeId} {pos : String} {af : Array Edge} {g : Option (Nat × Bool)}
theorem p_eqlNilB {xT yT E : TypeId} {x : Operand} {p : Option Addr} {n c : Nat} {b : Bool} (hT : P.underlying xT = some (.slice E)) (hx : aEv t x = some (.slice p n c)) (hc : c ≠ capE) (hb : p.isNone = b) :
    PureOk P N ⟨d, .binOp .eql xT x (.const (.slice none 0 0)) yT, ty, pos, af, g⟩ t (.bool b) := hb ▸ p_eqlNil hT hx hc
theorem p_neqNilB {xT yT E : TypeId} {x : Operand} {p : Option Addr} {n c : Nat} {b : Bool} (hT : P.underlying xT = some (.slice E)) (hx : aEv t x = some (.slice p n c)) (hc : c ≠ capE) (hb : p.isNone = b) :
    PureOk P N ⟨d, .binOp .neq xT x (.const (.slice none 0 0)) yT, ty, pos, af, g⟩ t (.bool (!b)) := hb ▸ p_neqNil hT hx hc
end pure
/-! slices of slices of arrays, read -/
abbrev Tbr := List (Option Addr × Nat × List (List Int))
def thdrR (x : Option Addr × Nat × List (List Int)) : Value := .slice x.1 x.2.2.length x.2.1
def tcellsR (T : Tbr) : List Value := T.map thdrR
def trowsR (T : Tbr) : List (List (List Int)) := T.map fun x => x.2.2
def TVwR (m : Nat) (G : AHeap) (T : Tbr) : Prop := ∀ x ∈ T, Vw G x.1 x.2.2.length x.2.1 (ints x.2.2.flatten) ∧ All m x.2.2
theorem tlenR {T : Tbr} {R : List (List (List Int))} (h : trowsR T = R) : T.length = R.length := by rw [← h]; exact (List.length_map _).symm
theorem tgetR {T : Tbr} {R : List (List (List Int))} {j : Nat} (h : trowsR T = R) (hj : j < R.length) : ∃ p c X, T[j]? = some (p, c, X) ∧ (tcellsR T)[j]? = some (.slice p (rw3 R j).length c) ∧ X = rw3 R j := by
  subst h
  have hj' : j < T.length := by rw [tlenR rfl]; exact hj
  have e : rw3 (trowsR T) j = T[j].2.2 := by
    unfold rw3 trowsR; rw [List.getD_eq_getElem?_getD, List.getElem?_map, List.getElem?_eq_getElem hj']; rfl
  refine ⟨T[j].1, T[j].2.1, T[j].2.2, List.getElem?_eq_getElem hj', ?_, e.symm⟩
  unfold tcellsR; rw [List.getElem?_map, List.getElem?_eq_getElem hj', e]; rfl
theorem TVwR.at1 {m : Nat} {G : AHeap} {T : Tbr} {j : Nat} {p : Option Addr} {c n : Nat} {X Q : List (List Int)} (h : TVwR m G T) (e : T[j]? = some (p, c, X)) (hX : X = Q) (hn : Q.length = n) : Vw G p n c (ints Q.flatten) := by
  subst hX hn
  exact (h _ (List.mem_of_getElem? e)).1
theorem TVwR.at2 {m : Nat} {G : AHeap} {T : Tbr} {j : Nat} {p : Option Addr} {c : Nat} {X Q : List (List Int)} (h : TVwR m G T) (e : T[j]? = some (p, c, X)) (hX : X = Q) : All m Q := by
  subst hX; exact (h _ (List.mem_of_getElem? e)).2
theorem St.tviewR {m : Nat} {H G : AHeap} {L : List Sg} {T : Tbr} (S : St [] H G L) (h : TVwR m H T) : TVwR m G T := fun x hx => ⟨S.view (h x hx).1, (h x hx).2⟩
theorem TVwR.nil {m : Nat} {G : AHeap} : TVwR m G [] := fun x h => by cases h
theorem TVwR.cons {m : Nat} {G : AHeap} {p : Option Addr} {c n : Nat} {X : List (List Int)} {T : Tbr} (h1 : Vw G p n c (ints X.flatten)) (hn : X.length = n) (hA : All m X) (h : TVwR m G T) : TVwR m G ((p, c, X) :: T) := fun x hx => by
  rcases List.mem_cons.1 hx with rfl | hx
  · subst hn; exact ⟨h1, hA⟩
  · exact h x hx
theorem vwR_2 {G : AHeap} {i n c n' c' : Nat} {p q : Option Addr} {X Y : List (List Int)} (h : hget G i = .row false [.slice p n c, .slice q n' c']) (hn : X.length = n) (hn' : Y.length = n') : Vw G (some ⟨i, 0, none⟩) 2 2 (tcellsR [(p, c, X), (q, c', Y)]) := by
  subst hn hn'
  exact ⟨.inr ⟨i, 0, rfl, row_lt h⟩, fun _ => rfl, fun j v e => by show hcell G i (0 + j) = _; rw [Nat.zero_add]; exact row_cell h e⟩
end Go.Proofs.Ytdafmafigcljkaa.Am
