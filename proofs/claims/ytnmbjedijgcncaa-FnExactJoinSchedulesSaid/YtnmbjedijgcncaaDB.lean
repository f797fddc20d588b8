/-
  What functions of the program compute, printed by a program. No condition.
-/
import Derived.Test.YtnmbjedijgcncaaDL
import Derived.Test.YtnmbjedijgcncaaDM
namespace Go.Proofs.Ytnmbjedijgcncaa
open Go Am
set_option linter.unusedVariables false
def D_slices_IndexFunc_SSint64_Sint64_s0 (fu : Nat) (a0 : List (List Int)) (a1 : (List Int) → Option Bool) : Int → Option (Lo Int (Unit ⊕ Int)) := fun x141 =>
 bif decide (x141 < ((a0.length : Nat) : Int)) then
 (chk (inR x141 a0.length) <|
 (a1 (rw_ a0 x141.toNat)).bind fun b180 =>
 bif b180 then
 (some (.out (.inr x141)))
 else
 (chk (in64 (x141 + 1)) <|
 some (.go (x141 + 1))))
 else
 (some (.out (.inl ())))
def D_slices_IndexFunc_SSint64_Sint64 (fu : Nat) (a0 : List (List Int)) (a1 : (List Int) → Option Bool) : Option Int :=
 (loopF (D_slices_IndexFunc_SSint64_Sint64_s0 fu a0 a1) fu 0).bind fun
 | .inl _ => (some (-1))
 | .inr v194 => some v194
def D_slices_ContainsFunc_SSint64_Sint64 (fu : Nat) (a0 : List (List Int)) (a1 : (List Int) → Option Bool) : Option Bool :=
 (D_slices_IndexFunc_SSint64_Sint64 fu a0 a1).bind fun x100 =>
 some (decide (0 ≤ x100))
def D_spec_l01Own (fu : Nat) (a0 : List Int) : Option (List Int) :=
 chk (0 + a0.length ≤ 4294967296) <|
 some a0
end Go.Proofs.Ytnmbjedijgcncaa
