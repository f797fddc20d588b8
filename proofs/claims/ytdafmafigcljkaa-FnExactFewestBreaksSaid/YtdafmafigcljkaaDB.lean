/-
  What functions of the program compute, printed by a program. No condition.
-/
import Derived.Test.YtdafmafigcljkaaDA
import Derived.Test.YtdafmafigcljkaaDSo
namespace Go.Proofs.Ytdafmafigcljkaa
open Go Am
set_option linter.unusedVariables false
def D_slices_Values_Sint64_int64 (fu : Nat) (a0 : List Int) : Option Unit :=
 some ()
def D_slices_Index_Sint64_int64_s0 (fu : Nat) (a0 : List Int) (a1 : Int) : Int → Option (Lo Int (Unit ⊕ Int)) := fun x127 =>
 bif decide (x127 < ((a0.length : Nat) : Int)) then
 (chk (inR x127 a0.length) <|
 bif decide (a1 = rd a0 x127.toNat) then
 (some (.out (.inr x127)))
 else
 (chk (in64 (x127 + 1)) <|
 some (.go (x127 + 1))))
 else
 (some (.out (.inl ())))
def D_slices_Index_Sint64_int64 (fu : Nat) (a0 : List Int) (a1 : Int) : Option Int :=
 (loopF (D_slices_Index_Sint64_int64_s0 fu a0 a1) fu 0).bind fun
 | .inl _ => (some (-1))
 | .inr v166 => some v166
def D_slices_Contains_Sint64_int64 (fu : Nat) (a0 : List Int) (a1 : Int) : Option Bool :=
 (D_slices_Index_Sint64_int64 fu a0 a1).bind fun x100 =>
 some (decide (0 ≤ x100))
def D_slices_Clone_Sint64_int64 (fu : Nat) (a0 : List Int) : Option (List Int) :=
 chk (0 + a0.length ≤ 4294967296) <|
 some a0
def D_impl_areDifferent (fu : Nat) (a0 : List Int) : Option Bool :=
 (D_slices_Values_Sint64_int64 fu a0).bind fun _ =>
 (D_slices_Sorted_int64 fu a0).bind fun xs108 =>
 ((D_slices_Contains_Sint64_int64 fu xs108 0).bind fun b151 =>
 bif !b151 then
 ((D_slices_Clone_Sint64_int64 fu xs108).bind fun xs157 =>
 (D_slices_Compact_Sint64_int64 fu xs157).bind fun (xs169, xs170) =>
 some (decide (((xs169.length : Nat) : Int) = ((xs108.length : Nat) : Int))))
 else
 (some false)).bind fun b147 =>
 some b147
def D_impl_isStrong (fu : Nat) (a0 : Int) (a1 : List (List Int)) : Option Bool :=
 (D_impl_sums fu a0 a1).bind fun xs100 =>
 (D_impl_areDifferent fu xs100).bind fun b111 =>
 some b111
def D_slices_IndexFunc_Sint64_int64_s0 (fu : Nat) (a0 : List Int) (a1 : Int → Option Bool) : Int → Option (Lo Int (Unit ⊕ Int)) := fun x133 =>
 bif decide (x133 < ((a0.length : Nat) : Int)) then
 (chk (inR x133 a0.length) <|
 (a1 (rd a0 x133.toNat)).bind fun b164 =>
 bif b164 then
 (some (.out (.inr x133)))
 else
 (chk (in64 (x133 + 1)) <|
 some (.go (x133 + 1))))
 else
 (some (.out (.inl ())))
def D_slices_IndexFunc_Sint64_int64 (fu : Nat) (a0 : List Int) (a1 : Int → Option Bool) : Option Int :=
 (loopF (D_slices_IndexFunc_Sint64_int64_s0 fu a0 a1) fu 0).bind fun
 | .inl _ => (some (-1))
 | .inr v178 => some v178
def D_slices_ContainsFunc_Sint64_int64 (fu : Nat) (a0 : List Int) (a1 : Int → Option Bool) : Option Bool :=
 (D_slices_IndexFunc_Sint64_int64 fu a0 a1).bind fun x100 =>
 some (decide (0 ≤ x100))
def D_impl_isSkew_1 (fu : Nat) (a0 : Int) (b0_0 : List Int) (b1_0 : Int) : Option Bool :=
 chk (in64 (b1_0 - a0)) <|
 (D_slices_Contains_Sint64_int64 fu b0_0 (b1_0 - a0)).bind fun b102 =>
 some b102
def D_impl_isSkew (fu : Nat) (a0 : Int) (a1 : List (List Int)) : Option Bool :=
 (D_impl_sums fu a0 a1).bind fun xs104 =>
 ((D_impl_isStrong fu a0 a1).bind fun b136 =>
 bif b136 then
 ((D_slices_ContainsFunc_Sint64_int64 fu xs104 (fun x0' => D_impl_isSkew_1 fu x0' xs104 a0)).bind fun b142 =>
 some (!b142))
 else
 (some false)).bind fun b132 =>
 some b132
def D_spec_l03Strong_s0 (fu : Nat) (a0 : Int) (xs106 : List Int) : ((List Bool) × Int) → Option (Lo ((List Bool) × Int) (Unit ⊕ Bool)) := fun (bs170, x172) =>
 bif decide (x172 < ((xs106.length : Nat) : Int)) then
 (chk (inR x172 xs106.length) <|
 chk (inR (rd xs106 x172.toNat) a0.toNat) <|
 bif rdb bs170 ((rd xs106 x172.toNat).toNat) then
 (some (.out (.inr false)))
 else
 (chk (inR x172 xs106.length) <|
 chk (inR (rd xs106 x172.toNat) a0.toNat) <|
 chk (in64 (x172 + 1)) <|
 some (.go ((bs170.set ((rd xs106 x172.toNat).toNat) true), x172 + 1))))
 else
 (some (.out (.inl ())))
def D_spec_l03Strong (fu : Nat) (a0 : Int) (a1 : List (List Int)) : Option Bool :=
 chk (0 ≤ a0 ∧ a0 ≤ 4294967296) <|
 (D_spec_l03Sums fu a0 a1).bind fun xs106 =>
 chk (inR 0 a0.toNat) <|
 (loopF (D_spec_l03Strong_s0 fu a0 xs106) fu (((List.replicate a0.toNat false).set 0 true), 0)).bind fun
 | .inl _ => (some true)
 | .inr v232 => some v232
def D_spec_l03Skew_s1 (fu : Nat) (a0 : Int) (xs100 : List Int) (x327 : Int) : Int → Option (Lo Int (Unit ⊕ Bool)) := fun x491 =>
 bif decide (x491 ≤ x327) then
 (chk (inR x327 xs100.length) <|
 chk (inR x491 xs100.length) <|
 chk (in64 (rd xs100 x327.toNat + (rd xs100 x491.toNat))) <|
 chk ((a0 : Int) ≠ 0) <|
 bif decide ((rd xs100 x327.toNat + (rd xs100 x491.toNat)).tmod a0 = 0) then
 (some (.out (.inr false)))
 else
 (chk (in64 (x491 + 1)) <|
 some (.go (x491 + 1))))
 else
 (some (.out (.inl ())))
def D_spec_l03Skew_s0 (fu : Nat) (a0 : Int) (xs100 : List Int) : Int → Option (Lo Int (Unit ⊕ Bool)) := fun x327 =>
 bif decide (x327 < ((xs100.length : Nat) : Int)) then
 ((loopF (D_spec_l03Skew_s1 fu a0 xs100 x327) fu 0).bind fun
 | .inl _ => (chk (in64 (x327 + 1)) <|
 some (.go (x327 + 1)))
 | .inr v552 => some (.out (.inr v552)))
 else
 (some (.out (.inl ())))
def D_spec_l03Skew (fu : Nat) (a0 : Int) (a1 : List (List Int)) : Option Bool :=
 (D_spec_l03Sums fu a0 a1).bind fun xs100 =>
 (loopF (D_spec_l03Skew_s0 fu a0 xs100) fu 0).bind fun
 | .inl _ => ((D_spec_l03Strong fu a0 a1).bind fun b558 =>
 some b558)
 | .inr v562 => some v562
end Go.Proofs.Ytdafmafigcljkaa
