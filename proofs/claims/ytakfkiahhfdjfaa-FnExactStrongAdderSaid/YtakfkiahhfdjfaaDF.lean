/-
  What functions of the program compute, printed by a program. No condition.
-/
import Derived.Test.YtakfkiahhfdjfaaDD
namespace Go.Proofs.Ytakfkiahhfdjfaa
open Go Am
set_option linter.unusedVariables false
def D_spec_IsStrong (fu : Nat) (a0 : Int) (a1 : List (List Int)) : Option (Bool × Int) :=
 (D_spec_l03Code fu a0 a1).bind fun x100 =>
 bif !decide (x100 = 0) then
 (some (false, x100))
 else
 ((D_spec_l03Strong fu a0 a1).bind fun b108 =>
 some (b108, 0))
def D_impl_IsStrong (fu : Nat) (a0 : Int) (a1 : List (List Int)) : Option (Bool × Int) :=
 (D_impl_starterCode fu a0 (fun _ => D_impl_always fu ) [a1]).bind fun x104 =>
 bif !decide (x104 = 0) then
 (some (false, x104))
 else
 ((D_impl_isStrong fu a0 a1).bind fun b112 =>
 some (b112, 0))
def D_spec_l03Skew_s1 (fu : Nat) (a0 : Int) (xs100 : List Int) (x327 : Int) : Int → Option (Lo Int (Unit ⊕ Bool)) := fun x491 =>
 bif decide (x491 ≤ x327) then
 (chk (inR x327 xs100.length) <|
 chk (inR x491 xs100.length) <|
 chk (in64 (rd xs100 x327.toNat + (rd xs100 x491.toNat))) <|
 chk ((a0 : Int) ≠ 0) <|
 bif decide ((rd xs100 x327.toNat + (rd xs100 x491.toNat)).tmod a0 = 0) then
 (some (.out (.inr false)))
 else
 (chk (in64 (x491 + 1)) <|
 some (.go (x491 + 1))))
 else
 (some (.out (.inl ())))
def D_spec_l03Skew_s0 (fu : Nat) (a0 : Int) (xs100 : List Int) : Int → Option (Lo Int (Unit ⊕ Bool)) := fun x327 =>
 bif decide (x327 < ((xs100.length : Nat) : Int)) then
 ((loopF (D_spec_l03Skew_s1 fu a0 xs100 x327) fu 0).bind fun
 | .inl _ => (chk (in64 (x327 + 1)) <|
 some (.go (x327 + 1)))
 | .inr v552 => some (.out (.inr v552)))
 else
 (some (.out (.inl ())))
def D_spec_l03Skew (fu : Nat) (a0 : Int) (a1 : List (List Int)) : Option Bool :=
 (D_spec_l03Sums fu a0 a1).bind fun xs100 =>
 (loopF (D_spec_l03Skew_s0 fu a0 xs100) fu 0).bind fun
 | .inl _ => ((D_spec_l03Strong fu a0 a1).bind fun b558 =>
 some b558)
 | .inr v562 => some v562
def D_spec_IsSkew (fu : Nat) (a0 : Int) (a1 : List (List Int)) : Option (Bool × Int) :=
 (D_spec_l03Code fu a0 a1).bind fun x100 =>
 bif !decide (x100 = 0) then
 (some (false, x100))
 else
 ((D_spec_l03Skew fu a0 a1).bind fun b108 =>
 some (b108, 0))
def D_impl_isSkew_1 (fu : Nat) (a0 : Int) (b0_0 : List Int) (b1_0 : Int) : Option Bool :=
 chk (in64 (b1_0 - a0)) <|
 (D_slices_Contains_Sint64_int64 fu b0_0 (b1_0 - a0)).bind fun b102 =>
 some b102
def D_impl_isSkew (fu : Nat) (a0 : Int) (a1 : List (List Int)) : Option Bool :=
 (D_impl_sums fu a0 a1).bind fun xs104 =>
 ((D_impl_isStrong fu a0 a1).bind fun b136 =>
 bif b136 then
 ((D_slices_ContainsFunc_Sint64_int64 fu xs104 (fun x0' => D_impl_isSkew_1 fu x0' xs104 a0)).bind fun b142 =>
 some (!b142))
 else
 (some false)).bind fun b132 =>
 some b132
def D_impl_IsSkew (fu : Nat) (a0 : Int) (a1 : List (List Int)) : Option (Bool × Int) :=
 (D_impl_starterCode fu a0 (fun _ => D_impl_always fu ) [a1]).bind fun x104 =>
 bif !decide (x104 = 0) then
 (some (false, x104))
 else
 ((D_impl_isSkew fu a0 a1).bind fun b112 =>
 some (b112, 0))
def D_spec_StrongAdder_s0 (fu : Nat) (a0 : Int) (xs118 : List Int) : ((List Int) × Int) → Option (Lo ((List Int) × Int) (List Int)) := fun (xs193, x194) =>
 bif decide (x194 < ((xs118.length : Nat) : Int)) then
 (chk (inR x194 xs118.length) <|
 chk (in64 (a0 - (rd xs118 x194.toNat))) <|
 chk (xs193.length + 1 ≤ 4294967296) <|
 chk (in64 (x194 + 1)) <|
 some (.go ((xs193 ++ [a0 - (rd xs118 x194.toNat)]), x194 + 1)))
 else
 (some (.out xs193))
def D_spec_StrongAdder (fu : Nat) (a0 : Int) (a1 : List (List Int)) : Option ((List Int) × Int) :=
 (D_spec_l03Code fu a0 a1).bind fun x100 =>
 bif !decide (x100 = 0) then
 (some ([], x100))
 else
 ((D_spec_l03Strong fu a0 a1).bind fun b109 =>
 bif !b109 then
 (some ([], 5))
 else
 ((D_spec_l03Sums fu a0 a1).bind fun xs118 =>
 (loopF (D_spec_StrongAdder_s0 fu a0 xs118) fu ([], 0)).bind fun xs222 =>
 some (xs222, 0)))
def D_impl_StrongAdder_s0 (fu : Nat) (a0 : Int) (xs153 : List Int) : ((List Int) × Int) → Option (Lo ((List Int) × Int) (List Int)) := fun (xs223, x225) =>
 bif decide (x225 < ((xs153.length : Nat) : Int)) then
 (chk (inR x225 xs153.length) <|
 chk (in64 (a0 - (rd xs153 x225.toNat))) <|
 chk (xs223.length + 1 ≤ 4294967296) <|
 chk (in64 (x225 + 1)) <|
 some (.go ((xs223 ++ [a0 - (rd xs153 x225.toNat)]), x225 + 1)))
 else
 (some (.out xs223))
def D_impl_StrongAdder (fu : Nat) (a0 : Int) (a1 : List (List Int)) : Option ((List Int) × Int) :=
 (D_impl_starterCode fu a0 (fun _ => D_impl_always fu ) [a1]).bind fun x104 =>
 (bif decide (x104 = 0) then
 ((D_impl_isStrong fu a0 a1).bind fun b121 =>
 some (!b121))
 else
 (some false)).bind fun b115 =>
 (bif b115 then
 (some 5)
 else
 (some x104)).bind fun x134 =>
 bif !decide (x134 = 0) then
 (some ([], x134))
 else
 ((D_impl_sums fu a0 a1).bind fun xs153 =>
 (loopF (D_impl_StrongAdder_s0 fu a0 xs153) fu ([], 0)).bind fun xs253 =>
 some (xs253, 0))
end Go.Proofs.Ytakfkiahhfdjfaa
