/-
  What functions of the program compute, printed by a program. No condition.
-/
import Derived.Test.YtakfkiahhfdjfaaDS
import Derived.Test.YtakfkiahhfdjfaaDSo
namespace Go.Proofs.Ytakfkiahhfdjfaa
open Go Am
set_option linter.unusedVariables false
def D_impl_sums_s0 (fu : Nat) (a0 : Int) (a1 : List (List Int)) : ((List Int) × Int) → Option (Lo ((List Int) × Int) (List Int)) := fun (xs181, x182) =>
 bif decide (x182 < ((a1.length : Nat) : Int)) then
 (chk (inR x182 a1.length) <|
 chk (inR 0 ((rw_ a1 x182.toNat).length)) <|
 chk (inR 1 ((rw_ a1 x182.toNat).length)) <|
 chk (in64 (rd (rw_ a1 x182.toNat) 0 + (rd (rw_ a1 x182.toNat) 1))) <|
 chk ((a0 : Int) ≠ 0) <|
 chk (xs181.length + 1 ≤ 4294967296) <|
 chk (in64 (x182 + 1)) <|
 some (.go ((xs181 ++ [(rd (rw_ a1 x182.toNat) 0 + (rd (rw_ a1 x182.toNat) 1)).tmod a0]), x182 + 1)))
 else
 (some (.out xs181))
def D_impl_sums (fu : Nat) (a0 : Int) (a1 : List (List Int)) : Option (List Int) :=
 (loopF (D_impl_sums_s0 fu a0 a1) fu ([], 0)).bind fun xs220 =>
 some xs220
def D_slices_Values_Sint64_int64 (fu : Nat) (a0 : List Int) : Option Unit :=
 some ()
def D_slices_Index_Sint64_int64_s0 (fu : Nat) (a0 : List Int) (a1 : Int) : Int → Option (Lo Int (Unit ⊕ Int)) := fun x127 =>
 bif decide (x127 < ((a0.length : Nat) : Int)) then
 (chk (inR x127 a0.length) <|
 bif decide (a1 = rd a0 x127.toNat) then
 (some (.out (.inr x127)))
 else
 (chk (in64 (x127 + 1)) <|
 some (.go (x127 + 1))))
 else
 (some (.out (.inl ())))
def D_slices_Index_Sint64_int64 (fu : Nat) (a0 : List Int) (a1 : Int) : Option Int :=
 (loopF (D_slices_Index_Sint64_int64_s0 fu a0 a1) fu 0).bind fun
 | .inl _ => (some (-1))
 | .inr v166 => some v166
def D_slices_Contains_Sint64_int64 (fu : Nat) (a0 : List Int) (a1 : Int) : Option Bool :=
 (D_slices_Index_Sint64_int64 fu a0 a1).bind fun x100 =>
 some (decide (0 ≤ x100))
def D_slices_Clone_Sint64_int64 (fu : Nat) (a0 : List Int) : Option (List Int) :=
 chk (0 + a0.length ≤ 4294967296) <|
 some a0
def D_impl_areDifferent (fu : Nat) (a0 : List Int) : Option Bool :=
 (D_slices_Values_Sint64_int64 fu a0).bind fun _ =>
 (D_slices_Sorted_int64 fu a0).bind fun xs108 =>
 ((D_slices_Contains_Sint64_int64 fu xs108 0).bind fun b151 =>
 bif !b151 then
 ((D_slices_Clone_Sint64_int64 fu xs108).bind fun xs157 =>
 (D_slices_Compact_Sint64_int64 fu xs157).bind fun (xs169, xs170) =>
 some (decide (((xs169.length : Nat) : Int) = ((xs108.length : Nat) : Int))))
 else
 (some false)).bind fun b147 =>
 some b147
def D_impl_isStrong (fu : Nat) (a0 : Int) (a1 : List (List Int)) : Option Bool :=
 (D_impl_sums fu a0 a1).bind fun xs100 =>
 (D_impl_areDifferent fu xs100).bind fun b111 =>
 some b111
def D_spec_l03Sums_s0 (fu : Nat) (a0 : Int) (a1 : List (List Int)) : ((List Int) × Int) → Option (Lo ((List Int) × Int) (List Int)) := fun (xs193, x194) =>
 bif decide (x194 < ((a1.length : Nat) : Int)) then
 (chk (inR x194 a1.length) <|
 chk (inR 0 ((rw_ a1 x194.toNat).length)) <|
 chk (inR x194 a1.length) <|
 chk (inR 1 ((rw_ a1 x194.toNat).length)) <|
 chk (in64 (rd (rw_ a1 x194.toNat) 0 + (rd (rw_ a1 x194.toNat) 1))) <|
 chk ((a0 : Int) ≠ 0) <|
 chk (xs193.length + 1 ≤ 4294967296) <|
 chk (in64 (x194 + 1)) <|
 some (.go ((xs193 ++ [(rd (rw_ a1 x194.toNat) 0 + (rd (rw_ a1 x194.toNat) 1)).tmod a0]), x194 + 1)))
 else
 (some (.out xs193))
def D_spec_l03Sums (fu : Nat) (a0 : Int) (a1 : List (List Int)) : Option (List Int) :=
 (loopF (D_spec_l03Sums_s0 fu a0 a1) fu ([], 0)).bind fun xs238 =>
 some xs238
def D_spec_l03Strong_s0 (fu : Nat) (a0 : Int) (xs106 : List Int) : ((List Bool) × Int) → Option (Lo ((List Bool) × Int) (Unit ⊕ Bool)) := fun (bs170, x172) =>
 bif decide (x172 < ((xs106.length : Nat) : Int)) then
 (chk (inR x172 xs106.length) <|
 chk (inR (rd xs106 x172.toNat) a0.toNat) <|
 bif rdb bs170 ((rd xs106 x172.toNat).toNat) then
 (some (.out (.inr false)))
 else
 (chk (inR x172 xs106.length) <|
 chk (inR (rd xs106 x172.toNat) a0.toNat) <|
 chk (in64 (x172 + 1)) <|
 some (.go ((bs170.set ((rd xs106 x172.toNat).toNat) true), x172 + 1))))
 else
 (some (.out (.inl ())))
def D_spec_l03Strong (fu : Nat) (a0 : Int) (a1 : List (List Int)) : Option Bool :=
 chk (0 ≤ a0 ∧ a0 ≤ 4294967296) <|
 (D_spec_l03Sums fu a0 a1).bind fun xs106 =>
 chk (inR 0 a0.toNat) <|
 (loopF (D_spec_l03Strong_s0 fu a0 xs106) fu (((List.replicate a0.toNat false).set 0 true), 0)).bind fun
 | .inl _ => (some true)
 | .inr v232 => some v232
end Go.Proofs.Ytakfkiahhfdjfaa
