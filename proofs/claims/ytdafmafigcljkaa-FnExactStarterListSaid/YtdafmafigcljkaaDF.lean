/-
  What functions of the program compute, printed by a program. No condition.
-/
import Derived.Test.YtdafmafigcljkaaDC
namespace Go.Proofs.Ytdafmafigcljkaa
open Go Am
set_option linter.unusedVariables false
def D_impl_copyRows_s0 (fu : Nat) (a0 : List (List Int)) : ((List (List Int)) × Int) → Option (Lo ((List (List Int)) × Int) (List (List Int))) := fun (rs194, x196) =>
 bif decide (x196 < ((a0.length : Nat) : Int)) then
 (chk (inR x196 a0.length) <|
 (D_slices_Clone_Sint64_int64 fu (rw_ a0 x196.toNat)).bind fun xs262 =>
 chk (rs194.length + 1 ≤ 4294967296) <|
 chk (in64 (x196 + 1)) <|
 some (.go ((rs194 ++ [xs262]), x196 + 1)))
 else
 (some (.out rs194))
def D_impl_copyRows (fu : Nat) (a0 : List (List Int)) : Option (List (List Int)) :=
 (loopF (D_impl_copyRows_s0 fu a0) fu ([], 0)).bind fun rs240 =>
 some rs240
def D_impl_StarterList_1 (fu : Nat) (a0 : List (List Int)) (k_n1 : Nat) (n1 : List (List (List Int))) : Option (Bool × (List (List (List Int)))) :=
 (D_impl_copyRows fu a0).bind fun rs100 =>
 chk (k_n1 + 1 ≤ 4294967296) <|
 some (true, (n1 ++ [rs100]))
def D_impl_starters_1__impl_StarterList_1_s0 (fu : Nat) (n0_0 : Int) (k_n2 : Nat) (n2 : List Bool) : Int → Option (Lo Int Int) := fun x260 =>
 (bif decide (x260 < n0_0) then
 (chk (inR x260 k_n2) <|
 some (rdb n2 x260.toNat))
 else
 (some false)).bind fun b374 =>
 bif b374 then
 (chk (in64 (x260 + 1)) <|
 some (.go (x260 + 1)))
 else
 (some (.out x260))
def D_impl_starters_1__impl_StarterList_1_s1 (self : (List (List Int)) → Int → Nat → (List Bool) → Nat → (List (List (List Int))) → Nat → (List Bool) → Option (Bool × (List Bool) × (List (List (List Int))) × (List Bool))) (fu : Nat) (a0 : List (List Int)) (n0_0 : Int) (k_n2 : Nat) (k_n7 : Nat) (x334 : Int) : ((List Bool) × (List (List (List Int))) × (List Bool) × Int) → Option (Lo ((List Bool) × (List (List (List Int))) × (List Bool) × Int) (((List Bool) × (List (List (List Int))) × (List Bool)) ⊕ (Bool × (List Bool) × (List (List (List Int))) × (List Bool)))) := fun (bs908, rss914, bs918, x923) =>
 bif decide (x923 < n0_0) then
 (chk (in64 (x923 - x334)) <|
 chk (in64 (n0_0 - x923)) <|
 chk (in64 (n0_0 - x923 + x334)) <|
 (chk (inR x923 k_n2) <|
 bif rdb bs908 x923.toNat then
 (some true)
 else
 (chk (inR (if n0_0 - x923 + x334 < x923 - x334 then n0_0 - x923 + x334 else x923 - x334) k_n7) <|
 some (rdb bs918 ((if n0_0 - x923 + x334 < x923 - x334 then n0_0 - x923 + x334 else x923 - x334).toNat)))).bind fun b1186 =>
 bif b1186 then
 (chk (in64 (x923 + 1)) <|
 some (.go (bs908, rss914, bs918, x923 + 1)))
 else
 (chk (inR x334 k_n2) <|
 chk (inR x923 k_n2) <|
 chk (inR (if n0_0 - x923 + x334 < x923 - x334 then n0_0 - x923 + x334 else x923 - x334) k_n7) <|
 (D_slices_Clone_SSint64_Sint64 fu a0).bind fun rs1256 =>
 chk (rs1256.length + 1 ≤ 4294967296) <|
 chk (0 < (rs1256 ++ [[x334, x923]]).length) <|
 (self (rs1256 ++ [[x334, x923]]) n0_0 k_n2 ((bs908.set x334.toNat true).set x923.toNat true) rss914.length rss914 k_n7 (bs918.set ((if n0_0 - x923 + x334 < x923 - x334 then n0_0 - x923 + x334 else x923 - x334).toNat) true)).bind fun (b1318, bs1319, rss1320, bs1321) =>
 chk (inR x334 k_n2) <|
 chk (inR x923 k_n2) <|
 chk (inR (if n0_0 - x923 + x334 < x923 - x334 then n0_0 - x923 + x334 else x923 - x334) k_n7) <|
 bif !b1318 then
 (some (.out (.inr (false, ((bs1319.set x334.toNat false).set x923.toNat false), rss1320, (bs1321.set ((if n0_0 - x923 + x334 < x923 - x334 then n0_0 - x923 + x334 else x923 - x334).toNat) false)))))
 else
 (chk (in64 (x923 + 1)) <|
 some (.go (((bs1319.set x334.toNat false).set x923.toNat false), rss1320, (bs1321.set ((if n0_0 - x923 + x334 < x923 - x334 then n0_0 - x923 + x334 else x923 - x334).toNat) false), x923 + 1)))))
 else
 (some (.out (.inl (bs908, rss914, bs918))))
def D_impl_starters_1__impl_StarterList_1 : Nat → (List (List Int)) → Int → Nat → (List Bool) → Nat → (List (List (List Int))) → Nat → (List Bool) → Option (Bool × (List Bool) × (List (List (List Int))) × (List Bool))
 | 0, _, _, _, _, _, _, _, _ => none
 | fu + 1, a0, n0_0, k_n2, n2, k_n5, n5, k_n7, n7 =>
 (loopF (D_impl_starters_1__impl_StarterList_1_s0 fu n0_0 k_n2 n2) fu 1).bind fun x334 =>
 bif decide (x334 = n0_0) then
 ((D_impl_StarterList_1 fu a0 k_n5 n5).bind fun (b446, rss447) =>
 some (b446, n2, rss447, n7))
 else
 (chk (in64 (x334 + 1)) <|
 (loopF (D_impl_starters_1__impl_StarterList_1_s1 (D_impl_starters_1__impl_StarterList_1 fu) fu a0 n0_0 k_n2 k_n7 x334) fu (n2, n5, n7, x334 + 1)).bind fun
 | .inl (bs1124, rss1130, bs1134) => (some (true, bs1124, rss1130, bs1134))
 | .inr v1414 => some v1414)
def D_impl_starters__impl_StarterList_1 (fu : Nat) (a0 : Int) (k_n1 : Nat) (n1 : List (List (List Int))) : Option (List (List (List Int))) :=
 chk (0 ≤ a0 ∧ a0 ≤ 4294967296) <|
 chk (0 ≤ a0 ∧ a0 ≤ 4294967296) <|
 (D_impl_starters_1__impl_StarterList_1 fu [] a0 a0.toNat (List.replicate a0.toNat false) k_n1 n1 a0.toNat (List.replicate a0.toNat false)).bind fun (b154, bs155, rss156, bs157) =>
 some rss156
def D_impl_StarterList (fu : Nat) (a0 : Int) : Option ((List (List (List Int))) × Int) :=
 (D_impl_isModulus fu a0).bind fun b100 =>
 bif !b100 then
 (some ([], 2))
 else
 (bif decide (9 < a0) then
 (some ([], 3))
 else
 ((D_impl_starters__impl_StarterList_1 fu a0 0 []).bind fun rss132 =>
 some (rss132, 0)))
end Go.Proofs.Ytdafmafigcljkaa
