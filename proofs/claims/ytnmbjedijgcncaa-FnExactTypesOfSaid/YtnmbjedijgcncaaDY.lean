/-
  What functions of the program compute, printed by a program. No condition.
-/
import Derived.Test.YtnmbjedijgcncaaDH
namespace Go.Proofs.Ytnmbjedijgcncaa
open Go Am
set_option linter.unusedVariables false
def D_laws_FnExactTypesOf (fu : Nat) (a0_0 : Int) (a0_1 : List (List Int)) : Option Bool :=
 (D_laws_szSchedule fu a0_0 a0_1 1048576).bind fun x104 =>
 bif decide (x104 < 0) then
 (some true)
 else
 ((D_laws_toSchedule fu a0_0 a0_1).bind fun (x111, rs112) =>
 (D_spec_TypesOf fu x111 rs112).bind fun (rs124, x125) =>
 (D_laws_toSchedule fu a0_0 a0_1).bind fun (x139, rs140) =>
 (D_impl_TypesOf fu x139 rs140).bind fun (rs158, x159) =>
 ((D_laws_eqInt64SS fu rs158 rs124).bind fun b189 =>
 bif !b189 then
 (some true)
 else
 (some (!decide (x159 = x125)))).bind fun b185 =>
 bif b185 then
 (some false)
 else
 ((D_laws_toSchedule fu a0_0 a0_1).bind fun (x218, rs219) =>
 (D_laws_eqSchedule fu x139 rs140 x218 rs219).bind fun b231 =>
 bif !b231 then
 (some false)
 else
 ((D_laws_markSchedule fu x139 rs140 1).bind fun (x239, rs240) =>
 (bif decide (x239 < 0) then
 (some true)
 else
 ((D_laws_eqInt64SS fu rs158 rs124).bind fun b275 =>
 bif !b275 then
 (some true)
 else
 (some (!decide (x159 = x125))))).bind fun b262 =>
 bif b262 then
 (some false)
 else
 ((D_laws_markInt64SS fu rs158 1).bind fun (x302, rs303) =>
 (D_laws_heldInt64SS fu rs303 1).bind fun x314 =>
 bif decide (x314 < 0) then
 (some false)
 else
 (bif !decide (x314 = x302) then
 (some false)
 else
 ((D_laws_toSchedule fu a0_0 a0_1).bind fun (x324, rs325) =>
 (D_impl_TypesOf fu x324 rs325).bind fun (rs337, x338) =>
 ((D_laws_eqInt64SS fu rs337 rs124).bind fun b364 =>
 bif !b364 then
 (some true)
 else
 (some (!decide (x338 = x125)))).bind fun b360 =>
 bif b360 then
 (some false)
 else
 ((D_laws_heldInt64SS fu rs303 1).bind fun x383 =>
 bif decide (x383 < 0) then
 (some false)
 else
 (bif !decide (x383 = x302) then
 (some false)
 else
 (some true)))))))))
def D_laws_FnExactIsPerfect (fu : Nat) (a0_0 : Int) (a0_1 : List (List Int)) : Option Bool :=
 (D_laws_szSchedule fu a0_0 a0_1 1048576).bind fun x104 =>
 bif decide (x104 < 0) then
 (some true)
 else
 ((D_laws_toSchedule fu a0_0 a0_1).bind fun (x111, rs112) =>
 (D_spec_IsPerfect fu x111 rs112).bind fun (b124, x125) =>
 (D_laws_toSchedule fu a0_0 a0_1).bind fun (x129, rs130) =>
 (D_impl_IsPerfect fu x129 rs130).bind fun (b148, x149) =>
 bif (!(b148 == b124)) || (!decide (x149 = x125)) then
 (some false)
 else
 ((D_laws_toSchedule fu a0_0 a0_1).bind fun (x161, rs162) =>
 (D_laws_eqSchedule fu x129 rs130 x161 rs162).bind fun b174 =>
 bif !b174 then
 (some false)
 else
 (some true)))
end Go.Proofs.Ytnmbjedijgcncaa
