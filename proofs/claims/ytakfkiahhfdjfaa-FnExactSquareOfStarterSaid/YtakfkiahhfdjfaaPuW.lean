/-
  A pair put into a cell of a square. Plain Lean, no program, no condition.
-/
import Derived.Test.YtakfkiahhfdjfaaDI
import Derived.Test.YtakfkiahhfdjfaaPuU
namespace Go.Proofs.Ytakfkiahhfdjfaa
open Go Am
set_option linter.unusedVariables false
set_option linter.unusedSimpArgs false

def cel (a b : Int) : Int := 14 * (if b < a then b else a) + (if b > a then b else a)
theorem cel_in {a b : Int} (ha : 0 ≤ a ∧ a ≤ 13) (hb : 0 ≤ b ∧ b ≤ 13) : (0 ≤ 14 * (if b < a then b else a) ∧ 14 * (if b < a then b else a) ≤ 182) ∧ 0 ≤ cel a b ∧ cel a b ≤ 195 := by
  unfold cel
  split <;> split <;> omega
theorem put2_D {fu : Nat} {m : Int} {Z : List (List Int)} {i j : Nat} {a b : Int} {k : Nat} (hk : k ≤ 14) (hZ : SqS k Z) (hi : i < k) (hj : j < k) (ha : 0 ≤ a ∧ a ≤ 13) (hb : 0 ≤ b ∧ b ≤ 13) : D_impl_Square_put fu m Z (i : Int) (j : Int) a b = some (Z.set i ((rw_ Z i).set j (cel a b))) := by
  have h1 := hZ.1
  have h2 := hZ.2 i hi
  obtain ⟨h3, h4⟩ := cel_in ha hb
  unfold cel at *
  unfold D_impl_Square_put
  rw [chk_inR (by omega) (by omega), chk_in64 (by omega) (by omega), chk_in64 (by omega) (by omega), Int.toNat_natCast, chk_inR (by omega) (by omega), Int.toNat_natCast]
end Go.Proofs.Ytakfkiahhfdjfaa

