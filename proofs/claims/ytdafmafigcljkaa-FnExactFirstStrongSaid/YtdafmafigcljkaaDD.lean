/-
  What functions of the program compute, printed by a program. No condition.
-/
import Derived.Test.YtdafmafigcljkaaDC
namespace Go.Proofs.Ytdafmafigcljkaa
open Go Am
set_option linter.unusedVariables false
def D_impl_FirstStrong_1 (fu : Nat) (a0 : List (List Int)) (n0_0 : Int) (n1_0 : List (List Int)) : Option (Bool × (List (List Int))) :=
 (D_impl_isStrong fu n0_0 a0).bind fun b100 =>
 bif b100 then
 (some (decide (a0 = []), a0))
 else
 (some (decide (n1_0 = []), n1_0))
def D_impl_starters_1__impl_FirstStrong_1_s0 (fu : Nat) (n0_0 : Int) (k_n2 : Nat) (n2 : List Bool) : Int → Option (Lo Int Int) := fun x271 =>
 (bif decide (x271 < n0_0) then
 (chk (inR x271 k_n2) <|
 some (rdb n2 x271.toNat))
 else
 (some false)).bind fun b391 =>
 bif b391 then
 (chk (in64 (x271 + 1)) <|
 some (.go (x271 + 1)))
 else
 (some (.out x271))
def D_impl_starters_1__impl_FirstStrong_1_s1 (self : (List (List Int)) → Int → Nat → (List Bool) → Int → (List (List Int)) → Nat → (List Bool) → Option (Bool × (List Bool) × (List (List Int)) × (List Bool))) (fu : Nat) (a0 : List (List Int)) (n0_0 : Int) (k_n2 : Nat) (n4_0 : Int) (k_n7 : Nat) (x349 : Int) : ((List Bool) × (List (List Int)) × (List Bool) × Int) → Option (Lo ((List Bool) × (List (List Int)) × (List Bool) × Int) (((List Bool) × (List (List Int)) × (List Bool)) ⊕ (Bool × (List Bool) × (List (List Int)) × (List Bool)))) := fun (bs928, rs932, bs941, x946) =>
 bif decide (x946 < n0_0) then
 (chk (in64 (x946 - x349)) <|
 chk (in64 (n0_0 - x946)) <|
 chk (in64 (n0_0 - x946 + x349)) <|
 (chk (inR x946 k_n2) <|
 bif rdb bs928 x946.toNat then
 (some true)
 else
 (chk (inR (if n0_0 - x946 + x349 < x946 - x349 then n0_0 - x946 + x349 else x946 - x349) k_n7) <|
 some (rdb bs941 ((if n0_0 - x946 + x349 < x946 - x349 then n0_0 - x946 + x349 else x946 - x349).toNat)))).bind fun b1214 =>
 bif b1214 then
 (chk (in64 (x946 + 1)) <|
 some (.go (bs928, rs932, bs941, x946 + 1)))
 else
 (chk (inR x349 k_n2) <|
 chk (inR x946 k_n2) <|
 chk (inR (if n0_0 - x946 + x349 < x946 - x349 then n0_0 - x946 + x349 else x946 - x349) k_n7) <|
 (D_slices_Clone_SSint64_Sint64 fu a0).bind fun rs1281 =>
 chk (rs1281.length + 1 ≤ 4294967296) <|
 chk (0 < (rs1281 ++ [[x349, x946]]).length) <|
 (self (rs1281 ++ [[x349, x946]]) n0_0 k_n2 ((bs928.set x349.toNat true).set x946.toNat true) n4_0 rs932 k_n7 (bs941.set ((if n0_0 - x946 + x349 < x946 - x349 then n0_0 - x946 + x349 else x946 - x349).toNat) true)).bind fun (b1342, bs1343, rs1344, bs1345) =>
 chk (inR x349 k_n2) <|
 chk (inR x946 k_n2) <|
 chk (inR (if n0_0 - x946 + x349 < x946 - x349 then n0_0 - x946 + x349 else x946 - x349) k_n7) <|
 bif !b1342 then
 (some (.out (.inr (false, ((bs1343.set x349.toNat false).set x946.toNat false), rs1344, (bs1345.set ((if n0_0 - x946 + x349 < x946 - x349 then n0_0 - x946 + x349 else x946 - x349).toNat) false)))))
 else
 (chk (in64 (x946 + 1)) <|
 some (.go (((bs1343.set x349.toNat false).set x946.toNat false), rs1344, (bs1345.set ((if n0_0 - x946 + x349 < x946 - x349 then n0_0 - x946 + x349 else x946 - x349).toNat) false), x946 + 1)))))
 else
 (some (.out (.inl (bs928, rs932, bs941))))
def D_impl_starters_1__impl_FirstStrong_1 : Nat → (List (List Int)) → Int → Nat → (List Bool) → Int → (List (List Int)) → Nat → (List Bool) → Option (Bool × (List Bool) × (List (List Int)) × (List Bool))
 | 0, _, _, _, _, _, _, _, _ => none
 | fu + 1, a0, n0_0, k_n2, n2, n4_0, n5_0, k_n7, n7 =>
 (loopF (D_impl_starters_1__impl_FirstStrong_1_s0 fu n0_0 k_n2 n2) fu 1).bind fun x349 =>
 bif decide (x349 = n0_0) then
 ((D_impl_FirstStrong_1 fu a0 n4_0 n5_0).bind fun (b458, rs459) =>
 some (b458, n2, rs459, n7))
 else
 (chk (in64 (x349 + 1)) <|
 (loopF (D_impl_starters_1__impl_FirstStrong_1_s1 (D_impl_starters_1__impl_FirstStrong_1 fu) fu a0 n0_0 k_n2 n4_0 k_n7 x349) fu (n2, n5_0, n7, x349 + 1)).bind fun
 | .inl (bs1148, rs1152, bs1161) => (some (true, bs1148, rs1152, bs1161))
 | .inr v1435 => some v1435)
def D_impl_starters__impl_FirstStrong_1 (fu : Nat) (a0 : Int) (n0_0 : Int) (n1_0 : List (List Int)) : Option (List (List Int)) :=
 chk (0 ≤ a0 ∧ a0 ≤ 4294967296) <|
 chk (0 ≤ a0 ∧ a0 ≤ 4294967296) <|
 (D_impl_starters_1__impl_FirstStrong_1 fu [] a0 a0.toNat (List.replicate a0.toNat false) n0_0 n1_0 a0.toNat (List.replicate a0.toNat false)).bind fun (b153, bs154, rs155, bs156) =>
 some rs155
def D_impl_FirstStrong (fu : Nat) (a0 : Int) : Option ((List (List Int)) × Int) :=
 (D_impl_isModulus fu a0).bind fun b104 =>
 bif !b104 then
 (some ([], 2))
 else
 ((D_impl_starters__impl_FirstStrong_1 fu a0 a0 []).bind fun rs123 =>
 bif decide (rs123 = []) then
 (some ([], 4))
 else
 (some (rs123, 0)))
end Go.Proofs.Ytdafmafigcljkaa
