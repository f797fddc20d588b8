/-
  What functions of the program compute, printed by a program. No condition.
-/
import Derived.Test.YtdafmafigcljkaaDB
namespace Go.Proofs.Ytdafmafigcljkaa
open Go Am
set_option linter.unusedVariables false
def D_impl_CountStarters_1 (fu : Nat) (a0 : List (List Int)) (n0_0 : Int) (n1_0 : Int) (n2_0 : Int) (n3_0 : Int) : Option (Bool × Int × Int × Int) :=
 chk (in64 (n0_0 + 1)) <|
 (D_impl_isStrong fu n1_0 a0).bind fun b105 =>
 (bif b105 then
 (chk (in64 (n2_0 + 1)) <|
 some (n2_0 + 1))
 else
 (some n2_0)).bind fun x121 =>
 (D_impl_isSkew fu n1_0 a0).bind fun b149 =>
 bif b149 then
 (chk (in64 (n3_0 + 1)) <|
 some (true, n0_0 + 1, x121, n3_0 + 1))
 else
 (some (true, n0_0 + 1, x121, n3_0))
def D_slices_Clone_SSint64_Sint64 (fu : Nat) (a0 : List (List Int)) : Option (List (List Int)) :=
 bif decide (a0 = []) then
 (some [])
 else
 (chk (0 + a0.length ≤ 4294967296) <|
 some a0)
def D_impl_starters_1__impl_CountStarters_1_s0 (fu : Nat) (n0_0 : Int) (k_n2 : Nat) (n2 : List Bool) : Int → Option (Lo Int Int) := fun x274 =>
 (bif decide (x274 < n0_0) then
 (chk (inR x274 k_n2) <|
 some (rdb n2 x274.toNat))
 else
 (some false)).bind fun b397 =>
 bif b397 then
 (chk (in64 (x274 + 1)) <|
 some (.go (x274 + 1)))
 else
 (some (.out x274))
def D_impl_starters_1__impl_CountStarters_1_s1 (self : (List (List Int)) → Int → Nat → (List Bool) → Int → Int → Int → Int → Nat → (List Bool) → Option (Bool × (List Bool) × Int × Int × Int × (List Bool))) (fu : Nat) (a0 : List (List Int)) (n0_0 : Int) (k_n2 : Nat) (n5_0 : Int) (k_n9 : Nat) (x354 : Int) : ((List Bool) × Int × Int × Int × (List Bool) × Int) → Option (Lo ((List Bool) × Int × Int × Int × (List Bool) × Int) (((List Bool) × Int × Int × Int × (List Bool)) ⊕ (Bool × (List Bool) × Int × Int × Int × (List Bool)))) := fun (bs944, x947, x950, x952, bs955, x960) =>
 bif decide (x960 < n0_0) then
 (chk (in64 (x960 - x354)) <|
 chk (in64 (n0_0 - x960)) <|
 chk (in64 (n0_0 - x960 + x354)) <|
 (chk (inR x960 k_n2) <|
 bif rdb bs944 x960.toNat then
 (some true)
 else
 (chk (inR (if n0_0 - x960 + x354 < x960 - x354 then n0_0 - x960 + x354 else x960 - x354) k_n9) <|
 some (rdb bs955 ((if n0_0 - x960 + x354 < x960 - x354 then n0_0 - x960 + x354 else x960 - x354).toNat)))).bind fun b1229 =>
 bif b1229 then
 (chk (in64 (x960 + 1)) <|
 some (.go (bs944, x947, x950, x952, bs955, x960 + 1)))
 else
 (chk (inR x354 k_n2) <|
 chk (inR x960 k_n2) <|
 chk (inR (if n0_0 - x960 + x354 < x960 - x354 then n0_0 - x960 + x354 else x960 - x354) k_n9) <|
 (D_slices_Clone_SSint64_Sint64 fu a0).bind fun rs1302 =>
 chk (rs1302.length + 1 ≤ 4294967296) <|
 chk (0 < (rs1302 ++ [[x354, x960]]).length) <|
 (self (rs1302 ++ [[x354, x960]]) n0_0 k_n2 ((bs944.set x354.toNat true).set x960.toNat true) x947 n5_0 x950 x952 k_n9 (bs955.set ((if n0_0 - x960 + x354 < x960 - x354 then n0_0 - x960 + x354 else x960 - x354).toNat) true)).bind fun (b1365, bs1366, x1367, x1368, x1369, bs1370) =>
 chk (inR x354 k_n2) <|
 chk (inR x960 k_n2) <|
 chk (inR (if n0_0 - x960 + x354 < x960 - x354 then n0_0 - x960 + x354 else x960 - x354) k_n9) <|
 bif !b1365 then
 (some (.out (.inr (false, ((bs1366.set x354.toNat false).set x960.toNat false), x1367, x1368, x1369, (bs1370.set ((if n0_0 - x960 + x354 < x960 - x354 then n0_0 - x960 + x354 else x960 - x354).toNat) false)))))
 else
 (chk (in64 (x960 + 1)) <|
 some (.go (((bs1366.set x354.toNat false).set x960.toNat false), x1367, x1368, x1369, (bs1370.set ((if n0_0 - x960 + x354 < x960 - x354 then n0_0 - x960 + x354 else x960 - x354).toNat) false), x960 + 1)))))
 else
 (some (.out (.inl (bs944, x947, x950, x952, bs955))))
def D_impl_starters_1__impl_CountStarters_1 : Nat → (List (List Int)) → Int → Nat → (List Bool) → Int → Int → Int → Int → Nat → (List Bool) → Option (Bool × (List Bool) × Int × Int × Int × (List Bool))
 | 0, _, _, _, _, _, _, _, _, _, _ => none
 | fu + 1, a0, n0_0, k_n2, n2, n4_0, n5_0, n6_0, n7_0, k_n9, n9 =>
 (loopF (D_impl_starters_1__impl_CountStarters_1_s0 fu n0_0 k_n2 n2) fu 1).bind fun x354 =>
 bif decide (x354 = n0_0) then
 ((D_impl_CountStarters_1 fu a0 n4_0 n5_0 n6_0 n7_0).bind fun (b474, x475, x476, x477) =>
 some (b474, n2, x475, x476, x477, n9))
 else
 (chk (in64 (x354 + 1)) <|
 (loopF (D_impl_starters_1__impl_CountStarters_1_s1 (D_impl_starters_1__impl_CountStarters_1 fu) fu a0 n0_0 k_n2 n5_0 k_n9 x354) fu (n2, n4_0, n6_0, n7_0, n9, x354 + 1)).bind fun
 | .inl (bs1164, x1167, x1170, x1172, bs1175) => (some (true, bs1164, x1167, x1170, x1172, bs1175))
 | .inr v1465 => some v1465)
def D_impl_starters__impl_CountStarters_1 (fu : Nat) (a0 : Int) (n0_0 : Int) (n1_0 : Int) (n2_0 : Int) (n3_0 : Int) : Option (Int × Int × Int) :=
 chk (0 ≤ a0 ∧ a0 ≤ 4294967296) <|
 chk (0 ≤ a0 ∧ a0 ≤ 4294967296) <|
 (D_impl_starters_1__impl_CountStarters_1 fu [] a0 a0.toNat (List.replicate a0.toNat false) n0_0 n1_0 n2_0 n3_0 a0.toNat (List.replicate a0.toNat false)).bind fun (b155, bs156, x157, x158, x159, bs160) =>
 some (x157, x158, x159)
def D_impl_CountStarters (fu : Nat) (a0 : Int) : Option (Int × Int × Int × Int) :=
 (D_impl_isModulus fu a0).bind fun b104 =>
 bif !b104 then
 (some (0, 0, 0, 2))
 else
 ((D_impl_starters__impl_CountStarters_1 fu a0 0 a0 0 0).bind fun (x137, x138, x139) =>
 some (x137, x138, x139, 0))
end Go.Proofs.Ytdafmafigcljkaa
