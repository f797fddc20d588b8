
/-
  What functions of the program compute, printed by a program. No condition.
-/
import Derived.Test.YtdafmafigcljkaaGreatDSb
import Derived.Test.YtdafmafigcljkaaGreatDD
import Derived.Test.YtdafmafigcljkaaGreatDG
import Derived.Test.YtdafmafigcljkaaGreatDMc
namespace Go.Proofs.YtdafmafigcljkaaGreat
open Go Am
set_option linter.unusedVariables false
def D_laws_big (fu : Nat) (a0 : List Int) : Option Bool :=
 some (decide (4096 < ((a0.length : Nat) : Int)))
def D_laws_FnAdders (fu : Nat) (a0 : List Int) : Option Bool :=
 (D_laws_big fu a0).bind fun b102 =>
 bif b102 then
 (some true)
 else
 ((D_spec_DrawStrongAdder fu a0).bind fun (x117, rs118) =>
 (D_impl_StrongAdder fu x117 rs118).bind fun (xs134, x135) =>
 (D_spec_StrongAdder fu x117 rs118).bind fun (xs146, x147) =>
 (D_impl_FirstAdder fu x117 rs118).bind fun (xs158, x159) =>
 (D_spec_FirstAdder fu x117 rs118).bind fun (xs170, x171) =>
 (bif !decide (x135 = x147) then
 (some true)
 else
 ((D_laws_likeInts fu xs134 xs146).bind fun b218 =>
 bif !b218 then
 (some true)
 else
 (bif !decide (x159 = x171) then
 (some true)
 else
 ((D_laws_likeInts fu xs158 xs170).bind fun b240 =>
 some (!b240))))).bind fun b205 =>
 bif b205 then
 (some false)
 else
 (((bif decide (x135 = 0) then
 ((D_impl_IsAdder fu x117 rs118 xs134).bind fun (b322, x323) =>
 chk (in64 (x117 - 1)) <|
 (D_impl_MultipleOf fu x117 rs118 (x117 - 1)).bind fun (rs329, x330) =>
 (D_impl_AreOrthogonal fu x117 rs118 rs329).bind fun (b344, x345) =>
 bif (!decide (x323 = 0)) || ((!decide (x330 = 0)) || ((!decide (x345 = 0)) || ((!decide (x159 = 0)) || ((!b322) || (!b344))))) then
 (some (.inr false))
 else
 (some (.inl ())))
 else
 (some (.inl ())) : Option (Unit ⊕ Bool))).bind fun
 | .inl _ => (((bif decide (x159 = 0) then
 ((D_impl_IsAdder fu x117 rs118 xs158).bind fun (b414, x415) =>
 bif (!decide (x415 = 0)) || (!b414) then
 (some (.inr false))
 else
 (some (.inl ())))
 else
 (some (.inl ())) : Option (Unit ⊕ Bool))).bind fun
 | .inl _ => ((D_spec_DrawFirstStrong fu a0).bind fun x440 =>
 (D_impl_FirstStrong fu x440).bind fun (rs449, x450) =>
 (D_spec_FirstStrong fu x440).bind fun (rs464, x465) =>
 (bif !decide (x450 = x465) then
 (some true)
 else
 ((D_laws_rows5 fu rs449 rs464).bind fun b501 =>
 some (!b501))).bind fun b490 =>
 bif b490 then
 (some false)
 else
 (((bif decide (x450 = 0) then
 ((D_impl_IsStrong fu x440 rs449).bind fun (b541, x542) =>
 bif (!decide (x542 = 0)) || (!b541) then
 (some (.inr false))
 else
 (some (.inl ())))
 else
 (some (.inl ())) : Option (Unit ⊕ Bool))).bind fun
 | .inl _ => ((D_spec_DrawIsAdder fu a0).bind fun (x567, rs568, xs569) =>
 (D_impl_IsAdder fu x567 rs568 xs569).bind fun (b589, x590) =>
 (D_spec_IsAdder fu x567 rs568 xs569).bind fun (b594, x595) =>
 (D_spec_DrawAreOrthogonal fu a0).bind fun (x601, rs602, rs603) =>
 (D_impl_AreOrthogonal fu x601 rs602 rs603).bind fun (b626, x627) =>
 (D_spec_AreOrthogonal fu x601 rs602 rs603).bind fun (b631, x632) =>
 (D_spec_DrawCountStarters fu a0).bind fun x638 =>
 (D_impl_CountStarters fu x638).bind fun (x647, x648, x649, x650) =>
 (D_spec_CountStarters fu x638).bind fun (x654, x655, x656, x657) =>
 some ((decide (x590 = x595)) && ((b589 == b594) && ((decide (x627 = x632)) && ((b626 == b631) && ((decide (x650 = x657)) && ((decide (x647 = x654)) && ((decide (x648 = x655)) && ((decide (x649 = x656)) && ((decide (x649 ≤ x648)) && (decide (x648 ≤ x647))))))))))))
 | .inr v700 => some v700))
 | .inr v701 => some v701)
 | .inr v702 => some v702))
end Go.Proofs.YtdafmafigcljkaaGreat
