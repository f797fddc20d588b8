/-
  What functions of the program compute, printed by a program. No condition.
-/
import Derived.Test.YtocaepkkaihiiaaDB
namespace Go.Proofs.Ytocaepkkaihiiaa
open Go Am
set_option linter.unusedVariables false
def D_spec_l04Is_s1 (fu : Nat) (a0_0 : Int) (a0_1 : List (List Int)) (x708 : Int) : Int → Option (Lo Int (Unit ⊕ Bool)) := fun x1143 =>
 bif decide (x1143 < a0_0) then
 (chk (inR x708 a0_1.length) <|
 chk (inR x1143 ((rw_ a0_1 x708.toNat).length)) <|
 (bif !decide (rd (rw_ a0_1 x708.toNat) x1143.toNat = (-1)) then
 ((D_spec_l01In fu (rd (rw_ a0_1 x708.toNat) x1143.toNat) 0 195).bind fun b1250 =>
 bif !b1250 then
 (some true)
 else
 (chk ((14 : Int) ≠ 0 ∧ in64 ((rd (rw_ a0_1 x708.toNat) x1143.toNat).tdiv 14)) <|
 bif decide ((rd (rw_ a0_1 x708.toNat) x1143.toNat).tmod 14 ≤ (rd (rw_ a0_1 x708.toNat) x1143.toNat).tdiv 14) then
 (some true)
 else
 (some (decide (a0_0 < (rd (rw_ a0_1 x708.toNat) x1143.toNat).tmod 14)))))
 else
 (some false)).bind fun b1244 =>
 bif b1244 then
 (some (.out (.inr false)))
 else
 (chk (in64 (x1143 + 1)) <|
 some (.go (x1143 + 1))))
 else
 (some (.out (.inl ())))
def D_spec_l04Is_s0 (fu : Nat) (a0_0 : Int) (a0_1 : List (List Int)) : Int → Option (Lo Int (Unit ⊕ Bool)) := fun x708 =>
 bif decide (x708 < a0_0) then
 (chk (inR x708 a0_1.length) <|
 bif !decide ((((rw_ a0_1 x708.toNat).length : Nat) : Int) = a0_0) then
 (some (.out (.inr false)))
 else
 ((loopF (D_spec_l04Is_s1 fu a0_0 a0_1 x708) fu 0).bind fun
 | .inl _ => (chk (in64 (x708 + 1)) <|
 some (.go (x708 + 1)))
 | .inr v1288 => some (.out (.inr v1288))))
 else
 (some (.out (.inl ())))
def D_spec_l04Is (fu : Nat) (a0_0 : Int) (a0_1 : List (List Int)) : Option Bool :=
 ((D_spec_l01In fu a0_0 1 13).bind fun b119 =>
 bif !b119 then
 (some true)
 else
 (bif decide (a0_0.tmod 2 = 0) then
 (some true)
 else
 (some (!decide (((a0_1.length : Nat) : Int) = a0_0))))).bind fun b115 =>
 bif b115 then
 (some false)
 else
 ((loopF (D_spec_l04Is_s0 fu a0_0 a0_1) fu 0).bind fun
 | .inl _ => (some true)
 | .inr v1294 => some v1294)
def D_spec_IsSquare (fu : Nat) (a0_0 : Int) (a0_1 : List (List Int)) : Option Bool :=
 (D_spec_l04Is fu a0_0 a0_1).bind fun b104 =>
 some b104
def D_impl_size_Sint64 (fu : Nat) (a0 : List (List Int)) : Option Int :=
 some ((a0.length : Nat) : Int)
def D_impl_size_int64 (fu : Nat) (a0 : List Int) : Option Int :=
 some ((a0.length : Nat) : Int)
def D_slices_IndexFunc_Sint64_int64_s0 (fu : Nat) (a0 : List Int) (a1 : Int → Option Bool) : Int → Option (Lo Int (Unit ⊕ Int)) := fun x133 =>
 bif decide (x133 < ((a0.length : Nat) : Int)) then
 (chk (inR x133 a0.length) <|
 (a1 (rd a0 x133.toNat)).bind fun b164 =>
 bif b164 then
 (some (.out (.inr x133)))
 else
 (chk (in64 (x133 + 1)) <|
 some (.go (x133 + 1))))
 else
 (some (.out (.inl ())))
def D_slices_IndexFunc_Sint64_int64 (fu : Nat) (a0 : List Int) (a1 : Int → Option Bool) : Option Int :=
 (loopF (D_slices_IndexFunc_Sint64_int64_s0 fu a0 a1) fu 0).bind fun
 | .inl _ => (some (-1))
 | .inr v178 => some v178
def D_slices_ContainsFunc_Sint64_int64 (fu : Nat) (a0 : List Int) (a1 : Int → Option Bool) : Option Bool :=
 (D_slices_IndexFunc_Sint64_int64 fu a0 a1).bind fun x100 =>
 some (decide (0 ≤ x100))
def D_impl_isCell (fu : Nat) (a0 : Int) (a1 : Int) : Option Bool :=
 (bif decide (a1 = (-1)) then
 (some true)
 else
 (bif decide (0 ≤ a1) then
 (chk ((14 : Int) ≠ 0 ∧ in64 (a1.tdiv 14)) <|
 bif decide (a1.tdiv 14 < a1.tmod 14) then
 (some (decide (a1.tmod 14 ≤ a0)))
 else
 (some false))
 else
 (some false))).bind fun b111 =>
 some b111
def D_impl_IsSquare_1_1 (fu : Nat) (a0 : Int) (b0_0 : Int) (b0_1 : List (List Int)) : Option Bool :=
 (D_impl_isCell fu b0_0 a0).bind fun b100 =>
 some (!b100)
def D_impl_IsSquare_1 (fu : Nat) (a0 : List Int) (b0_0 : Int) (b0_1 : List (List Int)) : Option Bool :=
 ((D_impl_size_int64 fu a0).bind fun x115 =>
 bif !decide (x115 = b0_0) then
 (some true)
 else
 ((D_slices_ContainsFunc_Sint64_int64 fu a0 (fun x0' => D_impl_IsSquare_1_1 fu x0' b0_0 b0_1)).bind fun b122 =>
 some b122)).bind fun b111 =>
 some b111
def D_impl_IsSquare (fu : Nat) (a0_0 : Int) (a0_1 : List (List Int)) : Option Bool :=
 ((D_impl_between fu a0_0 1 13).bind fun b123 =>
 bif !b123 then
 (some true)
 else
 (bif decide (a0_0.tmod 2 = 0) then
 (some true)
 else
 ((D_impl_size_Sint64 fu a0_1).bind fun x135 =>
 some (!decide (x135 = a0_0))))).bind fun b119 =>
 bif b119 then
 (some false)
 else
 ((D_slices_ContainsFunc_SSint64_Sint64 fu a0_1 (fun x0' => D_impl_IsSquare_1 fu x0' a0_0 a0_1)).bind fun b146 =>
 some (!b146))
def D_spec_CellOf (fu : Nat) (a0_0 : Int) (a0_1 : List (List Int)) (a1 : Int) (a2 : Int) : Option (Int × Int × Int) :=
 (D_spec_l04Is fu a0_0 a0_1).bind fun b104 =>
 bif !b104 then
 (some (0, 0, 1))
 else
 ((chk (in64 (a0_0 - 1)) <|
 (D_spec_l01In fu a1 0 (a0_0 - 1)).bind fun b135 =>
 bif !b135 then
 (some true)
 else
 (chk (in64 (a0_0 - 1)) <|
 (D_spec_l01In fu a2 0 (a0_0 - 1)).bind fun b145 =>
 some (!b145))).bind fun b129 =>
 bif b129 then
 (some (0, 0, 2))
 else
 (chk (inR a1 a0_1.length) <|
 chk (inR a2 ((rw_ a0_1 a1.toNat).length)) <|
 bif decide (rd (rw_ a0_1 a1.toNat) a2.toNat < 0) then
 (some (0, 0, 4))
 else
 (chk (inR a1 a0_1.length) <|
 chk (inR a2 ((rw_ a0_1 a1.toNat).length)) <|
 chk ((14 : Int) ≠ 0 ∧ in64 ((rd (rw_ a0_1 a1.toNat) a2.toNat).tdiv 14)) <|
 chk (inR a1 a0_1.length) <|
 chk (inR a2 ((rw_ a0_1 a1.toNat).length)) <|
 some ((rd (rw_ a0_1 a1.toNat) a2.toNat).tdiv 14, (rd (rw_ a0_1 a1.toNat) a2.toNat).tmod 14, 0))))
def D_impl_CellOf (fu : Nat) (a0_0 : Int) (a0_1 : List (List Int)) (a1 : Int) (a2 : Int) : Option (Int × Int × Int) :=
 (D_impl_IsSquare fu a0_0 a0_1).bind fun b104 =>
 bif !b104 then
 (some (0, 0, 1))
 else
 ((chk (in64 (a0_0 - 1)) <|
 (D_impl_between fu a1 0 (a0_0 - 1)).bind fun b135 =>
 bif !b135 then
 (some true)
 else
 (chk (in64 (a0_0 - 1)) <|
 (D_impl_between fu a2 0 (a0_0 - 1)).bind fun b145 =>
 some (!b145))).bind fun b129 =>
 bif b129 then
 (some (0, 0, 2))
 else
 (chk (inR a1 a0_1.length) <|
 chk (inR a2 ((rw_ a0_1 a1.toNat).length)) <|
 bif decide (rd (rw_ a0_1 a1.toNat) a2.toNat < 0) then
 (some (0, 0, 4))
 else
 (chk ((14 : Int) ≠ 0 ∧ in64 ((rd (rw_ a0_1 a1.toNat) a2.toNat).tdiv 14)) <|
 some ((rd (rw_ a0_1 a1.toNat) a2.toNat).tdiv 14, (rd (rw_ a0_1 a1.toNat) a2.toNat).tmod 14, 0))))
end Go.Proofs.Ytocaepkkaihiiaa
