/-
  What functions of the program compute, printed by a program. No condition.
-/
import Derived.Test.YtocaepkkaihiiaaDC
namespace Go.Proofs.Ytocaepkkaihiiaa
open Go Am
set_option linter.unusedVariables false
def D_spec_l03Modulus (fu : Nat) (a0 : Int) : Option Bool :=
 ((D_spec_l01In fu a0 3 13).bind fun b111 =>
 bif b111 then
 (some (decide (a0.tmod 2 = 1)))
 else
 (some false)).bind fun b107 =>
 some b107
def D_spec_l03Lists_s0 (fu : Nat) (a0 : Int) (a1 : List (List Int)) : Int → Option (Lo Int (Unit ⊕ Bool)) := fun x373 =>
 bif decide (x373 < ((a1.length : Nat) : Int)) then
 ((chk (inR x373 a1.length) <|
 bif !decide ((((rw_ a1 x373.toNat).length : Nat) : Int) = 2) then
 (some true)
 else
 (chk (inR x373 a1.length) <|
 chk (inR 0 ((rw_ a1 x373.toNat).length)) <|
 chk (in64 (a0 - 1)) <|
 (D_spec_l01In fu (rd (rw_ a1 x373.toNat) 0) 1 (a0 - 1)).bind fun b604 =>
 bif !b604 then
 (some true)
 else
 (chk (inR x373 a1.length) <|
 chk (inR 1 ((rw_ a1 x373.toNat).length)) <|
 chk (in64 (a0 - 1)) <|
 (D_spec_l01In fu (rd (rw_ a1 x373.toNat) 1) 1 (a0 - 1)).bind fun b621 =>
 bif !b621 then
 (some true)
 else
 (chk (inR x373 a1.length) <|
 chk (inR 0 ((rw_ a1 x373.toNat).length)) <|
 chk (inR x373 a1.length) <|
 chk (inR 1 ((rw_ a1 x373.toNat).length)) <|
 some (decide (rd (rw_ a1 x373.toNat) 0 = rd (rw_ a1 x373.toNat) 1)))))).bind fun b581 =>
 bif b581 then
 (some (.out (.inr false)))
 else
 (chk (in64 (x373 + 1)) <|
 some (.go (x373 + 1))))
 else
 (some (.out (.inl ())))
def D_spec_l03Lists (fu : Nat) (a0 : Int) (a1 : List (List Int)) : Option Bool :=
 (loopF (D_spec_l03Lists_s0 fu a0 a1) fu 0).bind fun
 | .inl _ => (some true)
 | .inr v658 => some v658
def D_spec_l03Mod (fu : Nat) (a0 : Int) (a1 : Int) : Option Int :=
 chk ((a1 : Int) ≠ 0) <|
 chk (in64 (a0.tmod a1 + a1)) <|
 chk ((a1 : Int) ≠ 0) <|
 some ((a0.tmod a1 + a1).tmod a1)
def D_spec_l03Is_s0 (fu : Nat) (a0 : Int) (a1 : List (List Int)) : ((List Bool) × (List Bool) × Int) → Option (Lo ((List Bool) × (List Bool) × Int) (Unit ⊕ Bool)) := fun (bs451, bs453, x454) =>
 bif decide (x454 < ((a1.length : Nat) : Int)) then
 (chk (inR x454 a1.length) <|
 chk (inR 0 ((rw_ a1 x454.toNat).length)) <|
 chk (inR x454 a1.length) <|
 chk (inR 1 ((rw_ a1 x454.toNat).length)) <|
 chk (in64 (rd (rw_ a1 x454.toNat) 1 - (rd (rw_ a1 x454.toNat) 0))) <|
 (D_spec_l03Mod fu (rd (rw_ a1 x454.toNat) 1 - (rd (rw_ a1 x454.toNat) 0)) a0).bind fun x649 =>
 (bif decide (rd (rw_ a1 x454.toNat) 1 < rd (rw_ a1 x454.toNat) 0) then
 (some true)
 else
 (bif decide (0 < x454) then
 (chk (in64 (x454 - 1)) <|
 chk (inR (x454 - 1) a1.length) <|
 chk (inR 0 ((rw_ a1 ((x454 - 1).toNat)).length)) <|
 bif decide (rd (rw_ a1 x454.toNat) 0 ≤ rd (rw_ a1 ((x454 - 1).toNat)) 0) then
 (some true)
 else
 (chk (inR (rd (rw_ a1 x454.toNat) 0) a0.toNat) <|
 bif rdb bs451 ((rd (rw_ a1 x454.toNat) 0).toNat) then
 (some true)
 else
 (chk (inR (rd (rw_ a1 x454.toNat) 1) a0.toNat) <|
 bif rdb bs451 ((rd (rw_ a1 x454.toNat) 1).toNat) then
 (some true)
 else
 (chk (inR x649 a0.toNat) <|
 some (rdb bs453 x649.toNat)))))
 else
 (chk (inR (rd (rw_ a1 x454.toNat) 0) a0.toNat) <|
 bif rdb bs451 ((rd (rw_ a1 x454.toNat) 0).toNat) then
 (some true)
 else
 (chk (inR (rd (rw_ a1 x454.toNat) 1) a0.toNat) <|
 bif rdb bs451 ((rd (rw_ a1 x454.toNat) 1).toNat) then
 (some true)
 else
 (chk (inR x649 a0.toNat) <|
 some (rdb bs453 x649.toNat)))))).bind fun b698 =>
 bif b698 then
 (some (.out (.inr false)))
 else
 (chk (inR (rd (rw_ a1 x454.toNat) 0) a0.toNat) <|
 chk (inR (rd (rw_ a1 x454.toNat) 1) a0.toNat) <|
 chk (inR x649 a0.toNat) <|
 chk (in64 (a0 - x649)) <|
 chk (inR (a0 - x649) a0.toNat) <|
 chk (in64 (x454 + 1)) <|
 some (.go (((bs451.set ((rd (rw_ a1 x454.toNat) 0).toNat) true).set ((rd (rw_ a1 x454.toNat) 1).toNat) true), ((bs453.set x649.toNat true).set ((a0 - x649).toNat) true), x454 + 1))))
 else
 (some (.out (.inl ())))
def D_spec_l03Is (fu : Nat) (a0 : Int) (a1 : List (List Int)) : Option Bool :=
 chk (in64 (a0 - 1)) <|
 chk ((2 : Int) ≠ 0 ∧ in64 ((a0 - 1).tdiv 2)) <|
 bif !decide (((a1.length : Nat) : Int) = (a0 - 1).tdiv 2) then
 (some false)
 else
 (chk (0 ≤ a0 ∧ a0 ≤ 4294967296) <|
 chk (0 ≤ a0 ∧ a0 ≤ 4294967296) <|
 (loopF (D_spec_l03Is_s0 fu a0 a1) fu ((List.replicate a0.toNat false), (List.replicate a0.toNat false), 0)).bind fun
 | .inl _ => (some true)
 | .inr v796 => some v796)
def D_spec_IsStarter (fu : Nat) (a0 : Int) (a1 : List (List Int)) : Option Bool :=
 ((D_spec_l03Modulus fu a0).bind fun b122 =>
 bif b122 then
 ((D_spec_l03Lists fu a0 a1).bind fun b128 =>
 bif b128 then
 ((D_spec_l03Is fu a0 a1).bind fun b134 =>
 some b134)
 else
 (some false))
 else
 (some false)).bind fun b118 =>
 some b118
def D_impl_isModulus (fu : Nat) (a0 : Int) : Option Bool :=
 ((D_impl_between fu a0 3 13).bind fun b111 =>
 bif b111 then
 (some (decide (a0.tmod 2 = 1)))
 else
 (some false)).bind fun b107 =>
 some b107
def D_impl_arePairs_1 (fu : Nat) (a0 : List Int) (b0_0 : Int) : Option Bool :=
 (bif !decide (((a0.length : Nat) : Int) = 2) then
 (some true)
 else
 (chk (inR 0 a0.length) <|
 chk (in64 (b0_0 - 1)) <|
 (D_impl_between fu (rd a0 0) 1 (b0_0 - 1)).bind fun b140 =>
 bif !b140 then
 (some true)
 else
 (chk (inR 1 a0.length) <|
 chk (in64 (b0_0 - 1)) <|
 (D_impl_between fu (rd a0 1) 1 (b0_0 - 1)).bind fun b151 =>
 bif !b151 then
 (some true)
 else
 (chk (inR 0 a0.length) <|
 chk (inR 1 a0.length) <|
 some (decide (rd a0 0 = rd a0 1)))))).bind fun b129 =>
 some b129
def D_impl_arePairs (fu : Nat) (a0 : Int) (a1 : List (List Int)) : Option Bool :=
 (D_slices_ContainsFunc_SSint64_Sint64 fu a1 (fun x0' => D_impl_arePairs_1 fu x0' a0)).bind fun b104 =>
 some (!b104)
def D_impl_isStarter_s0 (fu : Nat) (a0 : Int) (a1 : List (List Int)) : ((List (Int × Bool)) × (List (Int × Bool)) × Int) → Option (Lo ((List (Int × Bool)) × (List (Int × Bool)) × Int) (((List (Int × Bool)) × (List (Int × Bool))) ⊕ Bool)) := fun (mp336, mp338, x339) =>
 bif decide (x339 < ((a1.length : Nat) : Int)) then
 (chk (inR x339 a1.length) <|
 (chk (inR 0 ((rw_ a1 x339.toNat).length)) <|
 chk (inR 1 ((rw_ a1 x339.toNat).length)) <|
 bif decide (rd (rw_ a1 x339.toNat) 1 < rd (rw_ a1 x339.toNat) 0) then
 (some true)
 else
 (bif decide (0 < x339) then
 (chk (inR 0 ((rw_ a1 x339.toNat).length)) <|
 chk (in64 (x339 - 1)) <|
 chk (inR (x339 - 1) a1.length) <|
 chk (inR 0 ((rw_ a1 ((x339 - 1).toNat)).length)) <|
 some (decide (rd (rw_ a1 x339.toNat) 0 < rd (rw_ a1 ((x339 - 1).toNat)) 0)))
 else
 (some false))).bind fun b498 =>
 bif b498 then
 (some (.out (.inr false)))
 else
 (chk (inR 0 ((rw_ a1 x339.toNat).length)) <|
 chk (inR 1 ((rw_ a1 x339.toNat).length)) <|
 chk (inR 1 ((rw_ a1 x339.toNat).length)) <|
 chk (inR 0 ((rw_ a1 x339.toNat).length)) <|
 chk (in64 (rd (rw_ a1 x339.toNat) 1 - (rd (rw_ a1 x339.toNat) 0))) <|
 chk (inR 1 ((rw_ a1 x339.toNat).length)) <|
 chk (in64 (a0 - (rd (rw_ a1 x339.toNat) 1))) <|
 chk (inR 0 ((rw_ a1 x339.toNat).length)) <|
 chk (in64 (a0 - (rd (rw_ a1 x339.toNat) 1) + (rd (rw_ a1 x339.toNat) 0))) <|
 chk (in64 (x339 + 1)) <|
 some (.go ((mst (ment (mst (ment mp336 (rd (rw_ a1 x339.toNat) 0)) (mi mp336 (rd (rw_ a1 x339.toNat) 0)) true) (rd (rw_ a1 x339.toNat) 1)) (mi (mst (ment mp336 (rd (rw_ a1 x339.toNat) 0)) (mi mp336 (rd (rw_ a1 x339.toNat) 0)) true) (rd (rw_ a1 x339.toNat) 1)) true), (mst (ment (mst (ment mp338 (rd (rw_ a1 x339.toNat) 1 - (rd (rw_ a1 x339.toNat) 0))) (mi mp338 (rd (rw_ a1 x339.toNat) 1 - (rd (rw_ a1 x339.toNat) 0))) true) (a0 - (rd (rw_ a1 x339.toNat) 1) + (rd (rw_ a1 x339.toNat) 0))) (mi (mst (ment mp338 (rd (rw_ a1 x339.toNat) 1 - (rd (rw_ a1 x339.toNat) 0))) (mi mp338 (rd (rw_ a1 x339.toNat) 1 - (rd (rw_ a1 x339.toNat) 0))) true) (a0 - (rd (rw_ a1 x339.toNat) 1) + (rd (rw_ a1 x339.toNat) 0))) true), x339 + 1))))
 else
 (some (.out (.inl (mp336, mp338))))
def D_impl_isStarter (fu : Nat) (a0 : Int) (a1 : List (List Int)) : Option Bool :=
 (loopF (D_impl_isStarter_s0 fu a0 a1) fu ([], [], 0)).bind fun
 | .inl (mp451, mp453) => (((D_impl_size_Sint64 fu a1).bind fun x604 =>
 chk (in64 (2 * x604)) <|
 chk (in64 (a0 - 1)) <|
 bif decide (2 * x604 = a0 - 1) then
 (chk (in64 (a0 - 1)) <|
 bif decide (((mp451.length : Nat) : Int) = a0 - 1) then
 (chk (in64 (a0 - 1)) <|
 some (decide (((mp453.length : Nat) : Int) = a0 - 1)))
 else
 (some false))
 else
 (some false)).bind fun b600 =>
 some b600)
 | .inr v628 => some v628
def D_impl_starterCode_s0 (fu : Nat) (a0 : Int) (a2 : List (List (List Int))) : Int → Option (Lo Int (Unit ⊕ Int)) := fun x154 =>
 bif decide (x154 < ((a2.length : Nat) : Int)) then
 (chk (inR x154 a2.length) <|
 (D_impl_arePairs fu a0 (rw3 a2 x154.toNat)).bind fun b198 =>
 bif !b198 then
 (some (.out (.inr 2)))
 else
 (chk (in64 (x154 + 1)) <|
 some (.go (x154 + 1))))
 else
 (some (.out (.inl ())))
def D_impl_starterCode_s1 (fu : Nat) (a0 : Int) (a2 : List (List (List Int))) : Int → Option (Lo Int (Unit ⊕ Int)) := fun x266 =>
 bif decide (x266 < ((a2.length : Nat) : Int)) then
 (chk (inR x266 a2.length) <|
 (D_impl_isStarter fu a0 (rw3 a2 x266.toNat)).bind fun b310 =>
 bif !b310 then
 (some (.out (.inr 1)))
 else
 (chk (in64 (x266 + 1)) <|
 some (.go (x266 + 1))))
 else
 (some (.out (.inl ())))
def D_impl_starterCode (fu : Nat) (a0 : Int) (a1 : Unit → Option Bool) (a2 : List (List (List Int))) : Option Int :=
 (D_impl_isModulus fu a0).bind fun b100 =>
 bif !b100 then
 (some 2)
 else
 ((loopF (D_impl_starterCode_s0 fu a0 a2) fu 0).bind fun
 | .inl _ => ((a1 ()).bind fun b213 =>
 bif !b213 then
 (some 2)
 else
 ((loopF (D_impl_starterCode_s1 fu a0 a2) fu 0).bind fun
 | .inl _ => (some 0)
 | .inr v325 => some v325))
 | .inr v326 => some v326)
def D_impl_IsStarter (fu : Nat) (a0 : Int) (a1 : List (List Int)) : Option Bool :=
 (D_impl_starterCode fu a0 (fun _ => D_impl_always fu ) [a1]).bind fun x104 =>
 some (decide (x104 = 0))
def D_spec_l03Code (fu : Nat) (a0 : Int) (a1 : List (List Int)) : Option Int :=
 ((D_spec_l03Modulus fu a0).bind fun b115 =>
 bif !b115 then
 (some true)
 else
 ((D_spec_l03Lists fu a0 a1).bind fun b122 =>
 some (!b122))).bind fun b111 =>
 bif b111 then
 (some 2)
 else
 ((D_spec_l03Is fu a0 a1).bind fun b132 =>
 bif !b132 then
 (some 1)
 else
 (some 0))
def D_spec_l03Sums_s0 (fu : Nat) (a0 : Int) (a1 : List (List Int)) : ((List Int) × Int) → Option (Lo ((List Int) × Int) (List Int)) := fun (xs193, x194) =>
 bif decide (x194 < ((a1.length : Nat) : Int)) then
 (chk (inR x194 a1.length) <|
 chk (inR 0 ((rw_ a1 x194.toNat).length)) <|
 chk (inR x194 a1.length) <|
 chk (inR 1 ((rw_ a1 x194.toNat).length)) <|
 chk (in64 (rd (rw_ a1 x194.toNat) 0 + (rd (rw_ a1 x194.toNat) 1))) <|
 chk ((a0 : Int) ≠ 0) <|
 chk (xs193.length + 1 ≤ 4294967296) <|
 chk (in64 (x194 + 1)) <|
 some (.go ((xs193 ++ [(rd (rw_ a1 x194.toNat) 0 + (rd (rw_ a1 x194.toNat) 1)).tmod a0]), x194 + 1)))
 else
 (some (.out xs193))
def D_spec_l03Sums (fu : Nat) (a0 : Int) (a1 : List (List Int)) : Option (List Int) :=
 (loopF (D_spec_l03Sums_s0 fu a0 a1) fu ([], 0)).bind fun xs238 =>
 some xs238
def D_spec_SumsOf (fu : Nat) (a0 : Int) (a1 : List (List Int)) : Option ((List Int) × Int) :=
 (D_spec_l03Code fu a0 a1).bind fun x100 =>
 bif !decide (x100 = 0) then
 (some ([], x100))
 else
 ((D_spec_l03Sums fu a0 a1).bind fun xs109 =>
 some (xs109, 0))
def D_impl_sums_s0 (fu : Nat) (a0 : Int) (a1 : List (List Int)) : ((List Int) × Int) → Option (Lo ((List Int) × Int) (List Int)) := fun (xs181, x182) =>
 bif decide (x182 < ((a1.length : Nat) : Int)) then
 (chk (inR x182 a1.length) <|
 chk (inR 0 ((rw_ a1 x182.toNat).length)) <|
 chk (inR 1 ((rw_ a1 x182.toNat).length)) <|
 chk (in64 (rd (rw_ a1 x182.toNat) 0 + (rd (rw_ a1 x182.toNat) 1))) <|
 chk ((a0 : Int) ≠ 0) <|
 chk (xs181.length + 1 ≤ 4294967296) <|
 chk (in64 (x182 + 1)) <|
 some (.go ((xs181 ++ [(rd (rw_ a1 x182.toNat) 0 + (rd (rw_ a1 x182.toNat) 1)).tmod a0]), x182 + 1)))
 else
 (some (.out xs181))
def D_impl_sums (fu : Nat) (a0 : Int) (a1 : List (List Int)) : Option (List Int) :=
 (loopF (D_impl_sums_s0 fu a0 a1) fu ([], 0)).bind fun xs220 =>
 some xs220
def D_impl_SumsOf (fu : Nat) (a0 : Int) (a1 : List (List Int)) : Option ((List Int) × Int) :=
 (D_impl_starterCode fu a0 (fun _ => D_impl_always fu ) [a1]).bind fun x104 =>
 bif !decide (x104 = 0) then
 (some ([], x104))
 else
 ((D_impl_sums fu a0 a1).bind fun xs114 =>
 some (xs114, 0))
end Go.Proofs.Ytocaepkkaihiiaa
