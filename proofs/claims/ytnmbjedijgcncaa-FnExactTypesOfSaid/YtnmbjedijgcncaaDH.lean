/-
  What functions of the program compute, printed by a program. No condition.
-/
import Derived.Test.YtnmbjedijgcncaaDG
namespace Go.Proofs.Ytnmbjedijgcncaa
open Go Am
set_option linter.unusedVariables false
def D_spec_TypesOf_s1 (fu : Nat) (a0_0 : Int) (a0_1 : List (List Int)) (x542 : Int) : ((List (List Int)) × Int) → Option (Lo ((List (List Int)) × Int) (List (List Int))) := fun (rs858, x860) =>
 bif decide (x860 < ((a0_1.length : Nat) : Int)) then
 (chk (inR x542 a0_1.length) <|
 chk (inR x860 a0_1.length) <|
 (D_spec_l02Type fu a0_0 (rw_ a0_1 x542.toNat) (rw_ a0_1 x860.toNat)).bind fun xs924 =>
 chk (rs858.length + 1 ≤ 4294967296) <|
 chk (in64 (x860 + 1)) <|
 some (.go ((rs858 ++ [xs924]), x860 + 1)))
 else
 (some (.out rs858))
def D_spec_TypesOf_s0 (fu : Nat) (a0_0 : Int) (a0_1 : List (List Int)) : ((List (List Int)) × Int) → Option (Lo ((List (List Int)) × Int) (List (List Int))) := fun (rs540, x542) =>
 bif decide (x542 < ((a0_1.length : Nat) : Int)) then
 (chk (in64 (x542 + 1)) <|
 (loopF (D_spec_TypesOf_s1 fu a0_0 a0_1 x542) fu (rs540, x542 + 1)).bind fun rs903 =>
 chk (in64 (x542 + 1)) <|
 some (.go (rs903, x542 + 1)))
 else
 (some (.out rs540))
def D_spec_TypesOf (fu : Nat) (a0_0 : Int) (a0_1 : List (List Int)) : Option ((List (List Int)) × Int) :=
 (D_spec_l01Is fu a0_0 a0_1).bind fun b104 =>
 bif !b104 then
 (some ([], 1))
 else
 ((loopF (D_spec_TypesOf_s0 fu a0_0 a0_1) fu ([], 0)).bind fun rs750 =>
 some (rs750, 0))
def D_impl_TypesOf_s1 (fu : Nat) (a0_0 : Int) (a0_1 : List (List Int)) (x610 : Int) : ((List (List Int)) × Int) → Option (Lo ((List (List Int)) × Int) (List (List Int))) := fun (rs981, x984) =>
 bif decide (x984 < (((a0_1.length - ((x610 + 1).toNat)) : Nat) : Int)) then
 (chk (inR x984 (a0_1.length - ((x610 + 1).toNat))) <|
 (D_impl_kind fu a0_0 (rw_ a0_1 x610.toNat) (rw_ (a0_1.drop ((x610 + 1).toNat)) x984.toNat)).bind fun xs1057 =>
 chk (rs981.length + 1 ≤ 4294967296) <|
 chk (in64 (x984 + 1)) <|
 some (.go ((rs981 ++ [xs1057]), x984 + 1)))
 else
 (some (.out rs981))
def D_impl_TypesOf_s0 (fu : Nat) (a0_0 : Int) (a0_1 : List (List Int)) : ((List (List Int)) × Int) → Option (Lo ((List (List Int)) × Int) (List (List Int))) := fun (rs608, x610) =>
 bif decide (x610 < ((a0_1.length : Nat) : Int)) then
 (chk (inR x610 a0_1.length) <|
 chk (in64 (x610 + 1)) <|
 chk (0 ≤ (x610 + 1) ∧ (x610 + 1) ≤ ((a0_1.length : Nat) : Int) ∧ 0 < a0_1.length) <|
 (loopF (D_impl_TypesOf_s1 fu a0_0 a0_1 x610) fu (rs608, 0)).bind fun rs1031 =>
 chk (in64 (x610 + 1)) <|
 some (.go (rs1031, x610 + 1)))
 else
 (some (.out rs608))
def D_impl_TypesOf (fu : Nat) (a0_0 : Int) (a0_1 : List (List Int)) : Option ((List (List Int)) × Int) :=
 (D_impl_scheduleCode fu a0_0 a0_1 (fun _ => D_impl_always fu )).bind fun x104 =>
 bif !decide (x104 = 0) then
 (some ([], x104))
 else
 ((loopF (D_impl_TypesOf_s0 fu a0_0 a0_1) fu ([], 0)).bind fun rs852 =>
 some (rs852, 0))
def D_spec_IsPerfect_s1 (fu : Nat) (a0_0 : Int) (a0_1 : List (List Int)) (x418 : Int) : Int → Option (Lo Int (Unit ⊕ (Bool × Int))) := fun x649 =>
 bif decide (x649 < x418) then
 (chk (inR x649 a0_1.length) <|
 chk (inR x418 a0_1.length) <|
 (D_spec_l02Components fu a0_0 (rw_ a0_1 x649.toNat) (rw_ a0_1 x418.toNat)).bind fun rs699 =>
 bif !decide (((rs699.length : Nat) : Int) = 1) then
 (some (.out (.inr (false, 0))))
 else
 (chk (in64 (x649 + 1)) <|
 some (.go (x649 + 1))))
 else
 (some (.out (.inl ())))
def D_spec_IsPerfect_s0 (fu : Nat) (a0_0 : Int) (a0_1 : List (List Int)) : Int → Option (Lo Int (Unit ⊕ (Bool × Int))) := fun x418 =>
 bif decide (x418 < ((a0_1.length : Nat) : Int)) then
 ((loopF (D_spec_IsPerfect_s1 fu a0_0 a0_1 x418) fu 0).bind fun
 | .inl _ => (chk (in64 (x418 + 1)) <|
 some (.go (x418 + 1)))
 | .inr v733 => some (.out (.inr v733)))
 else
 (some (.out (.inl ())))
def D_spec_IsPerfect (fu : Nat) (a0_0 : Int) (a0_1 : List (List Int)) : Option (Bool × Int) :=
 (D_spec_l01Is fu a0_0 a0_1).bind fun b104 =>
 bif !b104 then
 (some (false, 1))
 else
 ((loopF (D_spec_IsPerfect_s0 fu a0_0 a0_1) fu 0).bind fun
 | .inl _ => (some (true, 0))
 | .inr v740 => some v740)
def D_slices_IndexFunc_SSint64_Sint64_s0 (fu : Nat) (a0 : List (List Int)) (a1 : (List Int) → Option Bool) : Int → Option (Lo Int (Unit ⊕ Int)) := fun x141 =>
 bif decide (x141 < ((a0.length : Nat) : Int)) then
 (chk (inR x141 a0.length) <|
 (a1 (rw_ a0 x141.toNat)).bind fun b180 =>
 bif b180 then
 (some (.out (.inr x141)))
 else
 (chk (in64 (x141 + 1)) <|
 some (.go (x141 + 1))))
 else
 (some (.out (.inl ())))
def D_slices_IndexFunc_SSint64_Sint64 (fu : Nat) (a0 : List (List Int)) (a1 : (List Int) → Option Bool) : Option Int :=
 (loopF (D_slices_IndexFunc_SSint64_Sint64_s0 fu a0 a1) fu 0).bind fun
 | .inl _ => (some (-1))
 | .inr v194 => some v194
def D_slices_ContainsFunc_SSint64_Sint64 (fu : Nat) (a0 : List (List Int)) (a1 : (List Int) → Option Bool) : Option Bool :=
 (D_slices_IndexFunc_SSint64_Sint64 fu a0 a1).bind fun x100 =>
 some (decide (0 ≤ x100))
def D_impl_IsPerfect_1 (fu : Nat) (a0 : List Int) : Option Bool :=
 some (decide (1 < ((a0.length : Nat) : Int)))
def D_impl_IsPerfect (fu : Nat) (a0_0 : Int) (a0_1 : List (List Int)) : Option (Bool × Int) :=
 (D_impl_TypesOf fu a0_0 a0_1).bind fun (rs104, x105) =>
 bif !decide (x105 = 0) then
 (some (false, x105))
 else
 ((D_slices_ContainsFunc_SSint64_Sint64 fu rs104 (fun x0' => D_impl_IsPerfect_1 fu x0')).bind fun b123 =>
 some (!b123, 0))
end Go.Proofs.Ytnmbjedijgcncaa
