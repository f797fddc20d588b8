/-
  What functions of the program compute, printed by a program. No condition.
-/
import Derived.Test.YtfiilgnebmidbaaDoorDB
namespace Go.Proofs.YtfiilgnebmidbaaDoor
open Go Am
set_option linter.unusedVariables false
def D_spec_l01Is_s0 (fu : Nat) (a0_0 : Int) (a0_1 : List (List Int)) : Int → Option (Lo Int (Unit ⊕ Bool)) := fun x169 =>
 bif decide (x169 < ((a0_1.length : Nat) : Int)) then
 (chk (inR x169 a0_1.length) <|
 (D_spec_l01Round fu a0_0 (rw_ a0_1 x169.toNat)).bind fun b202 =>
 bif !b202 then
 (some (.out (.inr false)))
 else
 (chk (in64 (x169 + 1)) <|
 some (.go (x169 + 1))))
 else
 (some (.out (.inl ())))
def D_spec_l01Is (fu : Nat) (a0_0 : Int) (a0_1 : List (List Int)) : Option Bool :=
 ((D_spec_l01In fu a0_0 2 14).bind fun b116 =>
 bif !b116 then
 (some true)
 else
 (some (decide (40 < ((a0_1.length : Nat) : Int))))).bind fun b112 =>
 bif b112 then
 (some false)
 else
 ((loopF (D_spec_l01Is_s0 fu a0_0 a0_1) fu 0).bind fun
 | .inl _ => (some true)
 | .inr v219 => some v219)
def D_slices_IndexFunc_Simpl_Round_impl_Round_s0 (fu : Nat) (a0 : List (List Int)) (a1 : (List Int) → Option Bool) : Int → Option (Lo Int (Unit ⊕ Int)) := fun x133 =>
 bif decide (x133 < ((a0.length : Nat) : Int)) then
 (chk (inR x133 a0.length) <|
 (a1 (rw_ a0 x133.toNat)).bind fun b164 =>
 bif b164 then
 (some (.out (.inr x133)))
 else
 (chk (in64 (x133 + 1)) <|
 some (.go (x133 + 1))))
 else
 (some (.out (.inl ())))
def D_slices_IndexFunc_Simpl_Round_impl_Round (fu : Nat) (a0 : List (List Int)) (a1 : (List Int) → Option Bool) : Option Int :=
 (loopF (D_slices_IndexFunc_Simpl_Round_impl_Round_s0 fu a0 a1) fu 0).bind fun
 | .inl _ => (some (-1))
 | .inr v178 => some v178
def D_slices_ContainsFunc_Simpl_Round_impl_Round (fu : Nat) (a0 : List (List Int)) (a1 : (List Int) → Option Bool) : Option Bool :=
 (D_slices_IndexFunc_Simpl_Round_impl_Round fu a0 a1).bind fun x100 =>
 some (decide (0 ≤ x100))
def D_impl_IsSchedule_1 (fu : Nat) (a0 : List Int) (b0_0 : Int) (b0_1 : List (List Int)) : Option Bool :=
 (D_impl_IsRound fu b0_0 a0).bind fun b104 =>
 some (!b104)
def D_impl_IsSchedule (fu : Nat) (a0_0 : Int) (a0_1 : List (List Int)) : Option Bool :=
 ((D_impl_between fu a0_0 2 14).bind fun b122 =>
 bif b122 then
 (bif decide (((a0_1.length : Nat) : Int) ≤ 40) then
 ((D_slices_ContainsFunc_Simpl_Round_impl_Round fu a0_1 (fun x0' => D_impl_IsSchedule_1 fu x0' a0_0 a0_1)).bind fun b130 =>
 some (!b130))
 else
 (some false))
 else
 (some false)).bind fun b118 =>
 some b118
def D_impl_scheduleCode (fu : Nat) (a0_0 : Int) (a0_1 : List (List Int)) (a1 : Unit → Option Bool) : Option Int :=
 (D_impl_IsSchedule fu a0_0 a0_1).bind fun b104 =>
 bif !b104 then
 (some 1)
 else
 ((a1 ()).bind fun b111 =>
 bif !b111 then
 (some 2)
 else
 (some 0))
end Go.Proofs.YtfiilgnebmidbaaDoor
