/-
  What functions of the program compute, printed by a program. No condition.
-/
import Derived.Test.YtakfkiahhfdjfaaDD
namespace Go.Proofs.Ytakfkiahhfdjfaa
open Go Am
set_option linter.unusedVariables false
def D_spec_l03Adder_s0 (fu : Nat) (a0 : Int) (a1 : List (List Int)) (a2 : List Int) : ((List Bool) × (List Bool) × Int) → Option (Lo ((List Bool) × (List Bool) × Int) (Unit ⊕ Bool)) := fun (bs316, bs318, x319) =>
 bif decide (x319 < ((a2.length : Nat) : Int)) then
 (chk (inR x319 a1.length) <|
 chk (inR 0 ((rw_ a1 x319.toNat).length)) <|
 chk (inR x319 a2.length) <|
 chk (in64 (rd (rw_ a1 x319.toNat) 0 + (rd a2 x319.toNat))) <|
 chk ((a0 : Int) ≠ 0) <|
 chk (inR x319 a1.length) <|
 chk (inR 1 ((rw_ a1 x319.toNat).length)) <|
 chk (inR x319 a2.length) <|
 chk (in64 (rd (rw_ a1 x319.toNat) 1 + (rd a2 x319.toNat))) <|
 chk ((a0 : Int) ≠ 0) <|
 (chk (inR ((rd (rw_ a1 x319.toNat) 0 + (rd a2 x319.toNat)).tmod a0) a0.toNat) <|
 bif rdb bs316 (((rd (rw_ a1 x319.toNat) 0 + (rd a2 x319.toNat)).tmod a0).toNat) then
 (some true)
 else
 (chk (inR ((rd (rw_ a1 x319.toNat) 1 + (rd a2 x319.toNat)).tmod a0) a0.toNat) <|
 bif rdb bs316 (((rd (rw_ a1 x319.toNat) 1 + (rd a2 x319.toNat)).tmod a0).toNat) then
 (some true)
 else
 (chk (inR x319 a2.length) <|
 chk (inR (rd a2 x319.toNat) a0.toNat) <|
 some (rdb bs318 ((rd a2 x319.toNat).toNat))))).bind fun b474 =>
 bif b474 then
 (some (.out (.inr false)))
 else
 (chk (inR ((rd (rw_ a1 x319.toNat) 0 + (rd a2 x319.toNat)).tmod a0) a0.toNat) <|
 chk (inR ((rd (rw_ a1 x319.toNat) 1 + (rd a2 x319.toNat)).tmod a0) a0.toNat) <|
 chk (inR x319 a2.length) <|
 chk (inR (rd a2 x319.toNat) a0.toNat) <|
 chk (in64 (x319 + 1)) <|
 some (.go (((bs316.set (((rd (rw_ a1 x319.toNat) 0 + (rd a2 x319.toNat)).tmod a0).toNat) true).set (((rd (rw_ a1 x319.toNat) 1 + (rd a2 x319.toNat)).tmod a0).toNat) true), (bs318.set ((rd a2 x319.toNat).toNat) true), x319 + 1))))
 else
 (some (.out (.inl ())))
def D_spec_l03Adder (fu : Nat) (a0 : Int) (a1 : List (List Int)) (a2 : List Int) : Option Bool :=
 chk (0 ≤ a0 ∧ a0 ≤ 4294967296) <|
 chk (0 ≤ a0 ∧ a0 ≤ 4294967296) <|
 chk (inR 0 a0.toNat) <|
 (loopF (D_spec_l03Adder_s0 fu a0 a1 a2) fu (((List.replicate a0.toNat false).set 0 true), (List.replicate a0.toNat false), 0)).bind fun
 | .inl _ => (some true)
 | .inr v529 => some v529
def D_spec_IsAdder_s0 (fu : Nat) (a0 : Int) (a2 : List Int) : Int → Option (Lo Int (Unit ⊕ (Bool × Int))) := fun x259 =>
 bif decide (x259 < ((a2.length : Nat) : Int)) then
 (chk (inR x259 a2.length) <|
 chk (in64 (a0 - 1)) <|
 (D_spec_l01In fu (rd a2 x259.toNat) 1 (a0 - 1)).bind fun b297 =>
 bif !b297 then
 (some (.out (.inr (false, 2))))
 else
 (chk (in64 (x259 + 1)) <|
 some (.go (x259 + 1))))
 else
 (some (.out (.inl ())))
def D_spec_IsAdder (fu : Nat) (a0 : Int) (a1 : List (List Int)) (a2 : List Int) : Option (Bool × Int) :=
 (D_spec_l03Code fu a0 a1).bind fun x100 =>
 ((bif !decide (x100 = 2) then
 (bif !decide (((a2.length : Nat) : Int) = ((a1.length : Nat) : Int)) then
 (some (.inr (false, 2)))
 else
 ((loopF (D_spec_IsAdder_s0 fu a0 a2) fu 0).bind fun
 | .inl _ => (some (.inl ()))
 | .inr v314 => some (.inr v314)))
 else
 (some (.inl ())) : Option (Unit ⊕ (Bool × Int)))).bind fun
 | .inl _ => (bif !decide (x100 = 0) then
 (some (false, x100))
 else
 ((D_spec_l03Adder fu a0 a1 a2).bind fun b323 =>
 some (b323, 0)))
 | .inr v328 => some v328
def D_impl_IsAdder_1_1 (fu : Nat) (a0 : Int) (b0_0 : Int) : Option Bool :=
 chk (in64 (b0_0 - 1)) <|
 (D_impl_between fu a0 1 (b0_0 - 1)).bind fun b102 =>
 some (!b102)
def D_impl_IsAdder_1 (fu : Nat) (b0_0 : List Int) (b1_0 : List (List Int)) (b2_0 : Int) : Option Bool :=
 (bif decide (((b0_0.length : Nat) : Int) = ((b1_0.length : Nat) : Int)) then
 ((D_slices_ContainsFunc_Sint64_int64 fu b0_0 (fun x0' => D_impl_IsAdder_1_1 fu x0' b2_0)).bind fun b113 =>
 some (!b113))
 else
 (some false)).bind fun b107 =>
 some b107
def D_impl_isAdder_s0 (fu : Nat) (a0 : Int) (a1 : List (List Int)) (a2 : List Int) : ((List Int) × Int) → Option (Lo ((List Int) × Int) (List Int)) := fun (xs205, x206) =>
 bif decide (x206 < ((a2.length : Nat) : Int)) then
 (chk (inR x206 a2.length) <|
 chk (inR x206 a1.length) <|
 chk (inR 0 ((rw_ a1 x206.toNat).length)) <|
 chk (in64 (rd (rw_ a1 x206.toNat) 0 + (rd a2 x206.toNat))) <|
 chk ((a0 : Int) ≠ 0) <|
 chk (inR x206 a1.length) <|
 chk (inR 1 ((rw_ a1 x206.toNat).length)) <|
 chk (in64 (rd (rw_ a1 x206.toNat) 1 + (rd a2 x206.toNat))) <|
 chk ((a0 : Int) ≠ 0) <|
 chk (xs205.length + 2 ≤ 4294967296) <|
 chk (in64 (x206 + 1)) <|
 some (.go ((xs205 ++ [(rd (rw_ a1 x206.toNat) 0 + (rd a2 x206.toNat)).tmod a0, (rd (rw_ a1 x206.toNat) 1 + (rd a2 x206.toNat)).tmod a0]), x206 + 1)))
 else
 (some (.out xs205))
def D_impl_isAdder (fu : Nat) (a0 : Int) (a1 : List (List Int)) (a2 : List Int) : Option Bool :=
 (loopF (D_impl_isAdder_s0 fu a0 a1 a2) fu ([], 0)).bind fun xs256 =>
 ((D_impl_areDifferent fu a2).bind fun b332 =>
 bif b332 then
 ((D_impl_areDifferent fu xs256).bind fun b338 =>
 some b338)
 else
 (some false)).bind fun b328 =>
 some b328
def D_impl_IsAdder (fu : Nat) (a0 : Int) (a1 : List (List Int)) (a2 : List Int) : Option (Bool × Int) :=
 (D_impl_starterCode fu a0 (fun _ => D_impl_IsAdder_1 fu a2 a1 a0) [a1]).bind fun x116 =>
 bif !decide (x116 = 0) then
 (some (false, x116))
 else
 ((D_impl_isAdder fu a0 a1 a2).bind fun b124 =>
 some (b124, 0))
def D_spec_l03Orthogonal_s1 (fu : Nat) (a0 : Int) (a1 : List (List Int)) (a2 : List (List Int)) (x1228 : Int) (x1816 : Int) : ((List Bool) × Int) → Option (Lo ((List Bool) × Int) ((List Bool) ⊕ Bool)) := fun (bs2077, x2078) =>
 bif decide (x2078 < ((a2.length : Nat) : Int)) then
 (chk (inR x2078 a2.length) <|
 chk (inR 1 ((rw_ a2 x2078.toNat).length)) <|
 chk (inR x2078 a2.length) <|
 chk (inR 0 ((rw_ a2 x2078.toNat).length)) <|
 chk (in64 (rd (rw_ a2 x2078.toNat) 1 - (rd (rw_ a2 x2078.toNat) 0))) <|
 (D_spec_l03Mod fu (rd (rw_ a2 x2078.toNat) 1 - (rd (rw_ a2 x2078.toNat) 0)) a0).bind fun x2238 =>
 bif decide (x1816 = x2238) then
 (chk (inR x2078 a2.length) <|
 chk (inR 0 ((rw_ a2 x2078.toNat).length)) <|
 chk (inR x1228 a1.length) <|
 chk (inR 0 ((rw_ a1 x1228.toNat).length)) <|
 chk (in64 (rd (rw_ a2 x2078.toNat) 0 - (rd (rw_ a1 x1228.toNat) 0))) <|
 (D_spec_l03Mod fu (rd (rw_ a2 x2078.toNat) 0 - (rd (rw_ a1 x1228.toNat) 0)) a0).bind fun x2262 =>
 chk (inR x2262 a0.toNat) <|
 bif rdb bs2077 x2262.toNat then
 (some (.out (.inr false)))
 else
 (chk (inR x2262 a0.toNat) <|
 chk (in64 (x2078 + 1)) <|
 some (.go ((bs2077.set x2262.toNat true), x2078 + 1))))
 else
 (chk (inR x2078 a2.length) <|
 chk (inR 0 ((rw_ a2 x2078.toNat).length)) <|
 chk (inR x2078 a2.length) <|
 chk (inR 1 ((rw_ a2 x2078.toNat).length)) <|
 chk (in64 (rd (rw_ a2 x2078.toNat) 0 - (rd (rw_ a2 x2078.toNat) 1))) <|
 (D_spec_l03Mod fu (rd (rw_ a2 x2078.toNat) 0 - (rd (rw_ a2 x2078.toNat) 1)) a0).bind fun x2300 =>
 bif decide (x1816 = x2300) then
 (chk (inR x2078 a2.length) <|
 chk (inR 1 ((rw_ a2 x2078.toNat).length)) <|
 chk (inR x1228 a1.length) <|
 chk (inR 0 ((rw_ a1 x1228.toNat).length)) <|
 chk (in64 (rd (rw_ a2 x2078.toNat) 1 - (rd (rw_ a1 x1228.toNat) 0))) <|
 (D_spec_l03Mod fu (rd (rw_ a2 x2078.toNat) 1 - (rd (rw_ a1 x1228.toNat) 0)) a0).bind fun x2324 =>
 chk (inR x2324 a0.toNat) <|
 bif rdb bs2077 x2324.toNat then
 (some (.out (.inr false)))
 else
 (chk (inR x2324 a0.toNat) <|
 chk (in64 (x2078 + 1)) <|
 some (.go ((bs2077.set x2324.toNat true), x2078 + 1))))
 else
 (chk (in64 (x2078 + 1)) <|
 some (.go (bs2077, x2078 + 1)))))
 else
 (some (.out (.inl bs2077)))
def D_spec_l03Orthogonal_s0 (fu : Nat) (a0 : Int) (a1 : List (List Int)) (a2 : List (List Int)) : ((List Bool) × Int) → Option (Lo ((List Bool) × Int) (Unit ⊕ Bool)) := fun (bs1227, x1228) =>
 bif decide (x1228 < ((a1.length : Nat) : Int)) then
 (chk (inR x1228 a1.length) <|
 chk (inR 1 ((rw_ a1 x1228.toNat).length)) <|
 chk (inR x1228 a1.length) <|
 chk (inR 0 ((rw_ a1 x1228.toNat).length)) <|
 chk (in64 (rd (rw_ a1 x1228.toNat) 1 - (rd (rw_ a1 x1228.toNat) 0))) <|
 (D_spec_l03Mod fu (rd (rw_ a1 x1228.toNat) 1 - (rd (rw_ a1 x1228.toNat) 0)) a0).bind fun x1816 =>
 (loopF (D_spec_l03Orthogonal_s1 fu a0 a1 a2 x1228 x1816) fu (bs1227, 0)).bind fun
 | .inl bs2206 => (chk (in64 (x1228 + 1)) <|
 some (.go (bs2206, x1228 + 1)))
 | .inr v2357 => some (.out (.inr v2357)))
 else
 (some (.out (.inl ())))
def D_spec_l03Orthogonal (fu : Nat) (a0 : Int) (a1 : List (List Int)) (a2 : List (List Int)) : Option Bool :=
 chk (0 ≤ a0 ∧ a0 ≤ 4294967296) <|
 chk (inR 0 a0.toNat) <|
 (loopF (D_spec_l03Orthogonal_s0 fu a0 a1 a2) fu (((List.replicate a0.toNat false).set 0 true), 0)).bind fun
 | .inl _ => (some true)
 | .inr v2363 => some v2363
def D_spec_AreOrthogonal (fu : Nat) (a0 : Int) (a1 : List (List Int)) (a2 : List (List Int)) : Option (Bool × Int) :=
 ((D_spec_l03Modulus fu a0).bind fun b122 =>
 bif !b122 then
 (some true)
 else
 ((D_spec_l03Lists fu a0 a1).bind fun b129 =>
 bif !b129 then
 (some true)
 else
 ((D_spec_l03Lists fu a0 a2).bind fun b136 =>
 some (!b136)))).bind fun b118 =>
 bif b118 then
 (some (false, 2))
 else
 (((D_spec_l03Is fu a0 a1).bind fun b162 =>
 bif !b162 then
 (some true)
 else
 ((D_spec_l03Is fu a0 a2).bind fun b169 =>
 some (!b169))).bind fun b158 =>
 bif b158 then
 (some (false, 1))
 else
 ((D_spec_l03Orthogonal fu a0 a1 a2).bind fun b180 =>
 some (b180, 0)))
def D_impl_AreOrthogonal_s1 (fu : Nat) (a0 : Int) (a1 : List (List Int)) (a2 : List (List Int)) (x840 : Int) : ((List Int) × Int) → Option (Lo ((List Int) × Int) (List Int)) := fun (xs1389, x1390) =>
 bif decide (x1390 < ((a2.length : Nat) : Int)) then
 (chk (inR x1390 a2.length) <|
 chk (inR 1 ((rw_ a2 x1390.toNat).length)) <|
 chk (inR 0 ((rw_ a2 x1390.toNat).length)) <|
 chk (in64 (rd (rw_ a2 x1390.toNat) 1 - (rd (rw_ a2 x1390.toNat) 0))) <|
 bif decide (rd (rw_ a2 x1390.toNat) 1 - (rd (rw_ a2 x1390.toNat) 0) = rd (rw_ a1 x840.toNat) 1 - (rd (rw_ a1 x840.toNat) 0)) then
 (chk (inR 0 ((rw_ a2 x1390.toNat).length)) <|
 chk (inR 0 ((rw_ a1 x840.toNat).length)) <|
 chk (in64 (rd (rw_ a2 x1390.toNat) 0 - (rd (rw_ a1 x840.toNat) 0))) <|
 chk (in64 (rd (rw_ a2 x1390.toNat) 0 - (rd (rw_ a1 x840.toNat) 0) + a0)) <|
 chk ((a0 : Int) ≠ 0) <|
 chk (xs1389.length + 1 ≤ 4294967296) <|
 chk (in64 (x1390 + 1)) <|
 some (.go ((xs1389 ++ [(rd (rw_ a2 x1390.toNat) 0 - (rd (rw_ a1 x840.toNat) 0) + a0).tmod a0]), x1390 + 1)))
 else
 (chk (in64 (a0 - (rd (rw_ a1 x840.toNat) 1 - (rd (rw_ a1 x840.toNat) 0)))) <|
 bif decide (rd (rw_ a2 x1390.toNat) 1 - (rd (rw_ a2 x1390.toNat) 0) = a0 - (rd (rw_ a1 x840.toNat) 1 - (rd (rw_ a1 x840.toNat) 0))) then
 (chk (inR 1 ((rw_ a2 x1390.toNat).length)) <|
 chk (inR 0 ((rw_ a1 x840.toNat).length)) <|
 chk (in64 (rd (rw_ a2 x1390.toNat) 1 - (rd (rw_ a1 x840.toNat) 0))) <|
 chk (in64 (rd (rw_ a2 x1390.toNat) 1 - (rd (rw_ a1 x840.toNat) 0) + a0)) <|
 chk ((a0 : Int) ≠ 0) <|
 chk (xs1389.length + 1 ≤ 4294967296) <|
 chk (in64 (x1390 + 1)) <|
 some (.go ((xs1389 ++ [(rd (rw_ a2 x1390.toNat) 1 - (rd (rw_ a1 x840.toNat) 0) + a0).tmod a0]), x1390 + 1)))
 else
 (chk (in64 (x1390 + 1)) <|
 some (.go (xs1389, x1390 + 1)))))
 else
 (some (.out xs1389))
def D_impl_AreOrthogonal_s0 (fu : Nat) (a0 : Int) (a1 : List (List Int)) (a2 : List (List Int)) : ((List Int) × Int) → Option (Lo ((List Int) × Int) (List Int)) := fun (xs839, x840) =>
 bif decide (x840 < ((a1.length : Nat) : Int)) then
 (chk (inR x840 a1.length) <|
 chk (inR 1 ((rw_ a1 x840.toNat).length)) <|
 chk (inR 0 ((rw_ a1 x840.toNat).length)) <|
 chk (in64 (rd (rw_ a1 x840.toNat) 1 - (rd (rw_ a1 x840.toNat) 0))) <|
 (loopF (D_impl_AreOrthogonal_s1 fu a0 a1 a2 x840) fu (xs839, 0)).bind fun xs1470 =>
 chk (in64 (x840 + 1)) <|
 some (.go (xs1470, x840 + 1)))
 else
 (some (.out xs839))
def D_impl_AreOrthogonal (fu : Nat) (a0 : Int) (a1 : List (List Int)) (a2 : List (List Int)) : Option (Bool × Int) :=
 (D_impl_starterCode fu a0 (fun _ => D_impl_always fu ) [a1, a2]).bind fun x104 =>
 bif !decide (x104 = 0) then
 (some (false, x104))
 else
 ((loopF (D_impl_AreOrthogonal_s0 fu a0 a1 a2) fu ([], 0)).bind fun xs1201 =>
 (D_impl_areDifferent fu xs1201).bind fun b1574 =>
 some (b1574, 0))
end Go.Proofs.Ytakfkiahhfdjfaa
