/-
  What functions of the program compute, printed by a program. No condition.
-/
import Derived.Test.YtnmbjedijgcncaaDE
import Derived.Test.YtnmbjedijgcncaaDAx
import Derived.Test.YtnmbjedijgcncaaDGr
namespace Go.Proofs.Ytnmbjedijgcncaa
open Go Am
set_option linter.unusedVariables false
def D_spec_l01Copy (fu : Nat) (a0_0 : Int) (a0_1 : List (List Int)) : Option (Int × (List (List Int))) :=
 chk (0 + a0_1.length ≤ 4294967296) <|
 some (a0_0, a0_1)
def D_spec_JoinSchedules (fu : Nat) (a0_0 : Int) (a0_1 : List (List Int)) (a1_0 : Int) (a1_1 : List (List Int)) : Option (Int × (List (List Int)) × Int) :=
 ((D_spec_l01Is fu a0_0 a0_1).bind fun b130 =>
 bif !b130 then
 (some true)
 else
 ((D_spec_l01Is fu a1_0 a1_1).bind fun b140 =>
 some (!b140))).bind fun b126 =>
 bif b126 then
 (some (0, [], 1))
 else
 (bif !decide (a0_0 = a1_0) then
 (some (0, [], 2))
 else
 (chk (in64 (((a0_1.length : Nat) : Int) + ((a1_1.length : Nat) : Int))) <|
 bif decide (40 < ((a0_1.length : Nat) : Int) + ((a1_1.length : Nat) : Int)) then
 (some (0, [], 3))
 else
 ((D_spec_l01Copy fu a0_0 a0_1).bind fun (x179, rs180) =>
 chk (rs180.length + a1_1.length ≤ 4294967296) <|
 some (x179, (rs180 ++ a1_1), 0))))
def D_slices_Concat_Simpl_Round_impl_Round_s0 (fu : Nat) (a0 : List (List (List Int))) : (Int × Int) → Option (Lo (Int × Int) Int) := fun (x144, x145) =>
 bif decide (x145 < ((a0.length : Nat) : Int)) then
 (chk (inR x145 a0.length) <|
 chk (in64 (x144 + (((rw3 a0 x145.toNat).length : Nat) : Int))) <|
 bif decide (x144 + (((rw3 a0 x145.toNat).length : Nat) : Int) < 0) then
 (none)
 else
 (chk (in64 (x145 + 1)) <|
 some (.go (x144 + (((rw3 a0 x145.toNat).length : Nat) : Int), x145 + 1))))
 else
 (some (.out x144))
def D_slices_Concat_Simpl_Round_impl_Round_s1 (fu : Nat) (a0 : List (List (List Int))) : ((List (List Int)) × Int) → Option (Lo ((List (List Int)) × Int) (List (List Int))) := fun (rs267, x268) =>
 bif decide (x268 < ((a0.length : Nat) : Int)) then
 (chk (inR x268 a0.length) <|
 chk (rs267.length + ((rw3 a0 x268.toNat).length) ≤ 4294967296) <|
 chk (in64 (x268 + 1)) <|
 some (.go ((rs267 ++ (rw3 a0 x268.toNat)), x268 + 1)))
 else
 (some (.out rs267))
def D_slices_Concat_Simpl_Round_impl_Round (fu : Nat) (a0 : List (List (List Int))) : Option (List (List Int)) :=
 (loopF (D_slices_Concat_Simpl_Round_impl_Round_s0 fu a0) fu (0, 0)).bind fun x167 =>
 (D_slices_Grow_Simpl_Round_impl_Round fu x167).bind fun rs200 =>
 (loopF (D_slices_Concat_Simpl_Round_impl_Round_s1 fu a0) fu (rs200, 0)).bind fun rs295 =>
 some rs295
def D_slices_Clone_Simpl_Round_impl_Round (fu : Nat) (a0 : List (List Int)) : Option (List (List Int)) :=
 chk (0 + a0.length ≤ 4294967296) <|
 some a0
def D_impl_Schedule_with (fu : Nat) (a0_0 : Int) (a0_1 : List (List Int)) (a1 : List (List Int)) : Option (Int × (List (List Int))) :=
 (D_slices_Clone_Simpl_Round_impl_Round fu a1).bind fun rs108 =>
 some (a0_0, rs108)
def D_impl_JoinSchedules (fu : Nat) (a0_0 : Int) (a0_1 : List (List Int)) (a1_0 : Int) (a1_1 : List (List Int)) : Option (Int × (List (List Int)) × Int) :=
 ((D_impl_IsSchedule fu a0_0 a0_1).bind fun b130 =>
 bif !b130 then
 (some true)
 else
 ((D_impl_IsSchedule fu a1_0 a1_1).bind fun b140 =>
 some (!b140))).bind fun b126 =>
 bif b126 then
 (some (0, [], 1))
 else
 (bif !decide (a0_0 = a1_0) then
 (some (0, [], 2))
 else
 (chk (in64 (((a0_1.length : Nat) : Int) + ((a1_1.length : Nat) : Int))) <|
 bif decide (40 < ((a0_1.length : Nat) : Int) + ((a1_1.length : Nat) : Int)) then
 (some (0, [], 3))
 else
 ((D_slices_Concat_Simpl_Round_impl_Round fu [a0_1, a1_1]).bind fun rs183 =>
 (D_impl_Schedule_with fu a0_0 a0_1 rs183).bind fun (x195, rs196) =>
 some (x195, rs196, 0))))
end Go.Proofs.Ytnmbjedijgcncaa
