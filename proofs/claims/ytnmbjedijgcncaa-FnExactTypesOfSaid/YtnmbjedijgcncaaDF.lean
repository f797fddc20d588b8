/-
  What functions of the program compute, printed by a program. No condition.
-/
import Derived.Test.YtnmbjedijgcncaaDE
import Derived.Test.YtnmbjedijgcncaaDSo
namespace Go.Proofs.Ytnmbjedijgcncaa
open Go Am
set_option linter.unusedVariables false
def D_impl_components_s2 (fu : Nat) (a0 : Int) (a1 : List Int) (a2 : List Int) (xs3700 : List Int) (x3701 : Int) : ((List Bool) × (List Int) × Int) → Option (Lo ((List Bool) × (List Int) × Int) ((List Bool) × (List Int))) := fun (bs4053, xs4057, x4059) =>
 bif decide (x4059 < 2) then
 (chk (inR x4059 2) <|
 chk (inR (rd [rd a1 ((rd xs3700 x3701.toNat).toNat), rd a2 ((rd xs3700 x3701.toNat).toNat)] x4059.toNat) a0.toNat) <|
 bif !(rdb bs4053 ((rd [rd a1 ((rd xs3700 x3701.toNat).toNat), rd a2 ((rd xs3700 x3701.toNat).toNat)] x4059.toNat).toNat)) then
 (chk (inR (rd [rd a1 ((rd xs3700 x3701.toNat).toNat), rd a2 ((rd xs3700 x3701.toNat).toNat)] x4059.toNat) a0.toNat) <|
 chk (xs4057.length + 1 ≤ 4294967296) <|
 chk (in64 (x4059 + 1)) <|
 some (.go ((bs4053.set ((rd [rd a1 ((rd xs3700 x3701.toNat).toNat), rd a2 ((rd xs3700 x3701.toNat).toNat)] x4059.toNat).toNat) true), (xs4057 ++ [rd [rd a1 ((rd xs3700 x3701.toNat).toNat), rd a2 ((rd xs3700 x3701.toNat).toNat)] x4059.toNat]), x4059 + 1)))
 else
 (chk (in64 (x4059 + 1)) <|
 some (.go (bs4053, xs4057, x4059 + 1))))
 else
 (some (.out (bs4053, xs4057)))
def D_impl_components_s1 (fu : Nat) (a0 : Int) (a1 : List Int) (a2 : List Int) : ((List Bool) × (List Int) × Int) → Option (Lo ((List Bool) × (List Int) × Int) ((List Bool) × (List Int))) := fun (bs3696, xs3700, x3701) =>
 bif decide (x3701 < ((xs3700.length : Nat) : Int)) then
 (chk (inR x3701 xs3700.length) <|
 chk (inR (rd xs3700 x3701.toNat) 14) <|
 chk (inR x3701 xs3700.length) <|
 chk (inR (rd xs3700 x3701.toNat) 14) <|
 (loopF (D_impl_components_s2 fu a0 a1 a2 xs3700 x3701) fu (bs3696, xs3700, 0)).bind fun (bs4097, xs4101) =>
 chk (in64 (x3701 + 1)) <|
 some (.go (bs4097, xs4101, x3701 + 1)))
 else
 (some (.out (bs3696, xs3700)))
def D_impl_components_s0 (fu : Nat) (a0 : Int) (a1 : List Int) (a2 : List Int) : ((List (List Int)) × (List Bool) × Int) → Option (Lo ((List (List Int)) × (List Bool) × Int) (List (List Int))) := fun (rs2165, bs2168, x2169) =>
 bif decide (x2169 < a0) then
 (chk (inR x2169 a0.toNat) <|
 bif rdb bs2168 x2169.toNat then
 (chk (in64 (x2169 + 1)) <|
 some (.go (rs2165, bs2168, x2169 + 1)))
 else
 (chk (inR x2169 a0.toNat) <|
 (loopF (D_impl_components_s1 fu a0 a1 a2) fu ((bs2168.set x2169.toNat true), [x2169], 0)).bind fun (bs3933, xs3937) =>
 (D_slices_Sort_Sint64_int64 fu xs3937).bind fun xs4195 =>
 chk (rs2165.length + 1 ≤ 4294967296) <|
 chk (in64 (x2169 + 1)) <|
 some (.go ((rs2165 ++ [xs4195]), bs3933, x2169 + 1))))
 else
 (some (.out rs2165))
def D_impl_components (fu : Nat) (a0 : Int) (a1 : List Int) (a2 : List Int) : Option (List (List Int)) :=
 chk (0 ≤ a0 ∧ a0 ≤ 4294967296) <|
 (loopF (D_impl_components_s0 fu a0 a1 a2) fu ([], (List.replicate a0.toNat false), 0)).bind fun rs3187 =>
 some rs3187
def D_spec_l02Rounds_s0 (fu : Nat) (a0 : Int) (a1 : List (List Int)) : Int → Option (Lo Int (Unit ⊕ Int)) := fun x142 =>
 bif decide (x142 < ((a1.length : Nat) : Int)) then
 (chk (inR x142 a1.length) <|
 (D_spec_l01Round fu a0 (rw_ a1 x142.toNat)).bind fun b174 =>
 bif !b174 then
 (some (.out (.inr 2)))
 else
 (chk (in64 (x142 + 1)) <|
 some (.go (x142 + 1))))
 else
 (some (.out (.inl ())))
def D_spec_l02Rounds (fu : Nat) (a0 : Int) (a1 : List (List Int)) : Option Int :=
 (D_spec_l01In fu a0 2 14).bind fun b100 =>
 bif !b100 then
 (some 2)
 else
 ((loopF (D_spec_l02Rounds_s0 fu a0 a1) fu 0).bind fun
 | .inl _ => (some 0)
 | .inr v189 => some v189)
def D_impl_twoCode (fu : Nat) (a0 : Int) (a1 : List Int) (a2 : List Int) : Option Int :=
 ((D_impl_IsRound fu a0 a1).bind fun b123 =>
 bif !b123 then
 (some true)
 else
 ((D_impl_IsRound fu a0 a2).bind fun b131 =>
 some (!b131))).bind fun b119 =>
 bif b119 then
 (some 2)
 else
 (some 0)
def D_spec_l01Own (fu : Nat) (a0 : List Int) : Option (List Int) :=
 chk (0 + a0.length ≤ 4294967296) <|
 some a0
def D_spec_l02Sorted_s1 (fu : Nat) (xs100 : List Int) : ((List Int) × Int) → Option (Lo ((List Int) × Int) (List Int)) := fun (xs959, x960) =>
 (bif decide (0 < x960) then
 (chk (in64 (x960 - 1)) <|
 chk (inR (x960 - 1) xs100.length) <|
 chk (inR x960 xs100.length) <|
 some (decide (rd xs959 x960.toNat < rd xs959 ((x960 - 1).toNat))))
 else
 (some false)).bind fun b1036 =>
 bif b1036 then
 (chk (inR x960 xs100.length) <|
 chk (in64 (x960 - 1)) <|
 chk (inR (x960 - 1) xs100.length) <|
 chk (inR x960 xs100.length) <|
 chk (in64 (x960 - 1)) <|
 chk (inR (x960 - 1) xs100.length) <|
 chk (in64 (x960 - 1)) <|
 some (.go (((xs959.set x960.toNat (rd xs959 ((x960 - 1).toNat))).set ((x960 - 1).toNat) (rd xs959 x960.toNat)), x960 - 1)))
 else
 (some (.out xs959))
def D_spec_l02Sorted_s0 (fu : Nat) (xs100 : List Int) : ((List Int) × Int) → Option (Lo ((List Int) × Int) (List Int)) := fun (xs594, x595) =>
 bif decide (x595 < ((xs100.length : Nat) : Int)) then
 ((loopF (D_spec_l02Sorted_s1 fu xs100) fu (xs594, x595)).bind fun xs1014 =>
 chk (in64 (x595 + 1)) <|
 some (.go (xs1014, x595 + 1)))
 else
 (some (.out xs594))
def D_spec_l02Sorted (fu : Nat) (a0 : List Int) : Option (List Int) :=
 (D_spec_l01Own fu a0).bind fun xs100 =>
 (loopF (D_spec_l02Sorted_s0 fu xs100) fu (xs100, 1)).bind fun xs836 =>
 some xs836
def D_spec_l02Components_s2 (fu : Nat) (a0 : Int) (a1 : List Int) (a2 : List Int) (xs3706 : List Int) (x3707 : Int) : ((List Bool) × (List Int) × Int) → Option (Lo ((List Bool) × (List Int) × Int) ((List Bool) × (List Int))) := fun (bs4059, xs4063, x4065) =>
 bif decide (x4065 < 2) then
 (chk (inR x4065 2) <|
 chk (inR (rd [rd a1 ((rd xs3706 x3707.toNat).toNat), rd a2 ((rd xs3706 x3707.toNat).toNat)] x4065.toNat) a0.toNat) <|
 bif !(rdb bs4059 ((rd [rd a1 ((rd xs3706 x3707.toNat).toNat), rd a2 ((rd xs3706 x3707.toNat).toNat)] x4065.toNat).toNat)) then
 (chk (inR (rd [rd a1 ((rd xs3706 x3707.toNat).toNat), rd a2 ((rd xs3706 x3707.toNat).toNat)] x4065.toNat) a0.toNat) <|
 chk (xs4063.length + 1 ≤ 4294967296) <|
 chk (in64 (x4065 + 1)) <|
 some (.go ((bs4059.set ((rd [rd a1 ((rd xs3706 x3707.toNat).toNat), rd a2 ((rd xs3706 x3707.toNat).toNat)] x4065.toNat).toNat) true), (xs4063 ++ [rd [rd a1 ((rd xs3706 x3707.toNat).toNat), rd a2 ((rd xs3706 x3707.toNat).toNat)] x4065.toNat]), x4065 + 1)))
 else
 (chk (in64 (x4065 + 1)) <|
 some (.go (bs4059, xs4063, x4065 + 1))))
 else
 (some (.out (bs4059, xs4063)))
def D_spec_l02Components_s1 (fu : Nat) (a0 : Int) (a1 : List Int) (a2 : List Int) : ((List Bool) × (List Int) × Int) → Option (Lo ((List Bool) × (List Int) × Int) ((List Bool) × (List Int))) := fun (bs3702, xs3706, x3707) =>
 bif decide (x3707 < ((xs3706.length : Nat) : Int)) then
 (chk (inR x3707 xs3706.length) <|
 chk (inR (rd xs3706 x3707.toNat) 14) <|
 chk (inR x3707 xs3706.length) <|
 chk (inR (rd xs3706 x3707.toNat) 14) <|
 (loopF (D_spec_l02Components_s2 fu a0 a1 a2 xs3706 x3707) fu (bs3702, xs3706, 0)).bind fun (bs4103, xs4107) =>
 chk (in64 (x3707 + 1)) <|
 some (.go (bs4103, xs4107, x3707 + 1)))
 else
 (some (.out (bs3702, xs3706)))
def D_spec_l02Components_s0 (fu : Nat) (a0 : Int) (a1 : List Int) (a2 : List Int) : ((List (List Int)) × (List Bool) × Int) → Option (Lo ((List (List Int)) × (List Bool) × Int) (List (List Int))) := fun (rs2169, bs2172, x2173) =>
 bif decide (x2173 < a0) then
 (chk (inR x2173 a0.toNat) <|
 bif rdb bs2172 x2173.toNat then
 (chk (in64 (x2173 + 1)) <|
 some (.go (rs2169, bs2172, x2173 + 1)))
 else
 (chk (inR x2173 a0.toNat) <|
 (loopF (D_spec_l02Components_s1 fu a0 a1 a2) fu ((bs2172.set x2173.toNat true), [x2173], 0)).bind fun (bs3939, xs3943) =>
 (D_spec_l02Sorted fu xs3943).bind fun xs4200 =>
 chk (rs2169.length + 1 ≤ 4294967296) <|
 chk (in64 (x2173 + 1)) <|
 some (.go ((rs2169 ++ [xs4200]), bs3939, x2173 + 1))))
 else
 (some (.out rs2169))
def D_spec_l02Components (fu : Nat) (a0 : Int) (a1 : List Int) (a2 : List Int) : Option (List (List Int)) :=
 chk (0 ≤ a0 ∧ a0 ≤ 4294967296) <|
 (loopF (D_spec_l02Components_s0 fu a0 a1 a2) fu ([], (List.replicate a0.toNat false), 0)).bind fun rs3193 =>
 some rs3193
end Go.Proofs.Ytnmbjedijgcncaa
