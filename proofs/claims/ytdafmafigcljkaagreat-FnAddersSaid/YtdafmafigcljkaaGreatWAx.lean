
/-
  A call that may hand back the very slice that it was handed. No condition.
-/
import Derived.Test.YtdafmafigcljkaaGreatK5
namespace Go.Proofs.YtdafmafigcljkaaGreat.Am
open Go Go.RowKit
set_option linter.unusedVariables false
set_option linter.unusedSimpArgs false
theorem St.callG {M : List Nat} {H G G' : AHeap} {L : List Sg} {a r : List Int} {p q : Option Addr} {c e : Nat} (S : St M H G (oseg q (ints a) :: L)) (sb : Sb q a.length e 1)
    (h : (St [] G G' [oseg p (ints r)] ∧ Sb p r.length c 1) ∨ (p = q ∧ c = e ∧ r = a ∧ St [] G G' [])) : St M H G' (oseg p (ints r) :: L) ∧ Sb p r.length c 1 := by
  rcases h with ⟨S', sb'⟩ | ⟨rfl, rfl, rfl, S'⟩
  · exact ⟨(S.call S').drop 1 rfl, sb'⟩
  · exact ⟨S.call S', sb⟩
theorem nil_pos {x : List Int} {α : Prop} (h : 0 < x.length) (e : x = []) : α := by subst e; exact absurd h (by simp)
theorem Sb.isNone {p : Option Addr} {x : List Int} {c m : Nat} (h : Sb p x.length c m) (h0 : x = [] → p = none) : p.isNone = decide (x = []) := by
  by_cases e : x = []
  · rw [h0 e, decide_eq_true e]; rfl
  · rw [h.at (List.length_pos_iff.2 e), decide_eq_false e]; rfl
section pure
variable {P : Program} {N : Nat} {t : Env} {d : Option Tmp} {ty : TypeId} {pos : String} {af : Array Edge} {g : Option (Nat × Bool)}
theorem p_eqlNilB {xT yT E : TypeId} {x : Operand} {p : Option Addr} {n c : Nat} {b : Bool} (hT : P.underlying xT = some (.slice E)) (hx : aEv t x = some (.slice p n c)) (hc : c ≠ capE) (hb : p.isNone = b) :
    PureOk P N ⟨d, .binOp .eql xT x (.const (.slice none 0 0)) yT, ty, pos, af, g⟩ t (.bool b) := hb ▸ p_eqlNil hT hx hc
theorem p_neqNilB {xT yT E : TypeId} {x : Operand} {p : Option Addr} {n c : Nat} {b : Bool} (hT : P.underlying xT = some (.slice E)) (hx : aEv t x = some (.slice p n c)) (hc : c ≠ capE) (hb : p.isNone = b) :
    PureOk P N ⟨d, .binOp .neq xT x (.const (.slice none 0 0)) yT, ty, pos, af, g⟩ t (.bool (!b)) := hb ▸ p_neqNil hT hx hc
end pure
end Go.Proofs.YtdafmafigcljkaaGreat.Am
