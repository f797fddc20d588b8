/-
  What functions of the program compute, printed by a program. No condition.
-/
import Derived.Test.YtocaepkkaihiiaaDL
import Derived.Test.YtocaepkkaihiiaaDM
namespace Go.Proofs.Ytocaepkkaihiiaa
open Go Am
set_option linter.unusedVariables false
def D_spec_l01Pairs_s0 (fu : Nat) (a0 : Int) (a1 : List Int) : ((List (List Int)) × Int) → Option (Lo ((List (List Int)) × Int) (List (List Int))) := fun (rs189, x191) =>
 bif decide (x191 < a0) then
 (chk (inR x191 14) <|
 bif decide (x191 < rd a1 x191.toNat) then
 (chk (inR x191 14) <|
 chk (rs189.length + 1 ≤ 4294967296) <|
 chk (in64 (x191 + 1)) <|
 some (.go ((rs189 ++ [[x191, rd a1 x191.toNat]]), x191 + 1)))
 else
 (chk (in64 (x191 + 1)) <|
 some (.go (rs189, x191 + 1))))
 else
 (some (.out rs189))
def D_spec_l01Pairs (fu : Nat) (a0 : Int) (a1 : List Int) : Option (List (List Int)) :=
 (loopF (D_spec_l01Pairs_s0 fu a0 a1) fu ([], 0)).bind fun rs231 =>
 some rs231
def D_spec_PairsOf (fu : Nat) (a0 : Int) (a1 : List Int) : Option ((List (List Int)) × Int) :=
 (D_spec_l01Round fu a0 a1).bind fun b104 =>
 bif !b104 then
 (some ([], 2))
 else
 ((D_spec_l01Pairs fu a0 a1).bind fun rs115 =>
 some (rs115, 0))
def D_impl_Round_pairs_s0 (fu : Nat) (a0 : List Int) (a1 : Int) : ((List (List Int)) × Int) → Option (Lo ((List (List Int)) × Int) (List (List Int))) := fun (rs189, x191) =>
 bif decide (x191 < a1) then
 (chk (inR x191 14) <|
 bif decide (x191 < rd a0 x191.toNat) then
 (chk (inR x191 14) <|
 chk (rs189.length + 1 ≤ 4294967296) <|
 chk (in64 (x191 + 1)) <|
 some (.go ((rs189 ++ [[x191, rd a0 x191.toNat]]), x191 + 1)))
 else
 (chk (in64 (x191 + 1)) <|
 some (.go (rs189, x191 + 1))))
 else
 (some (.out rs189))
def D_impl_Round_pairs (fu : Nat) (a0 : List Int) (a1 : Int) : Option (List (List Int)) :=
 (loopF (D_impl_Round_pairs_s0 fu a0 a1) fu ([], 0)).bind fun rs231 =>
 some rs231
def D_impl_PairsOf (fu : Nat) (a0 : Int) (a1 : List Int) : Option ((List (List Int)) × Int) :=
 (D_impl_IsRound fu a0 a1).bind fun b104 =>
 bif !b104 then
 (some ([], 2))
 else
 ((D_impl_Round_pairs fu a1 a0).bind fun rs115 =>
 some (rs115, 0))
def D_spec_l01Made_s0 (fu : Nat) (a1 : List (List Int)) : ((List Int) × Int) → Option (Lo ((List Int) × Int) (List Int)) := fun (xs220, x221) =>
 bif decide (x221 < ((a1.length : Nat) : Int)) then
 (chk (inR x221 a1.length) <|
 chk (inR 0 ((rw_ a1 x221.toNat).length)) <|
 chk (inR x221 a1.length) <|
 chk (inR 1 ((rw_ a1 x221.toNat).length)) <|
 chk (inR (rd (rw_ a1 x221.toNat) 0) 14) <|
 chk (inR x221 a1.length) <|
 chk (inR 1 ((rw_ a1 x221.toNat).length)) <|
 chk (inR x221 a1.length) <|
 chk (inR 0 ((rw_ a1 x221.toNat).length)) <|
 chk (inR (rd (rw_ a1 x221.toNat) 1) 14) <|
 chk (in64 (x221 + 1)) <|
 some (.go (((xs220.set ((rd (rw_ a1 x221.toNat) 0).toNat) (rd (rw_ a1 x221.toNat) 1)).set ((rd (rw_ a1 x221.toNat) 1).toNat) (rd (rw_ a1 x221.toNat) 0)), x221 + 1)))
 else
 (some (.out xs220))
def D_spec_l01Made (fu : Nat) (a0 : Int) (a1 : List (List Int)) : Option (List Int) :=
 (D_spec_l01Free fu a0).bind fun xs104 =>
 (loopF (D_spec_l01Made_s0 fu a1) fu (xs104, 0)).bind fun xs272 =>
 some xs272
def D_spec_RoundOf_s0 (fu : Nat) (a0 : Int) (a1 : List (List Int)) : Int → Option (Lo Int (Unit ⊕ ((List Int) × Int))) := fun x426 =>
 bif decide (x426 < ((a1.length : Nat) : Int)) then
 ((chk (inR x426 a1.length) <|
 bif !decide ((((rw_ a1 x426.toNat).length : Nat) : Int) = 2) then
 (some true)
 else
 (chk (inR x426 a1.length) <|
 chk (inR 0 ((rw_ a1 x426.toNat).length)) <|
 chk (in64 (a0 - 1)) <|
 (D_spec_l01In fu (rd (rw_ a1 x426.toNat) 0) 0 (a0 - 1)).bind fun b669 =>
 bif !b669 then
 (some true)
 else
 (chk (inR x426 a1.length) <|
 chk (inR 1 ((rw_ a1 x426.toNat).length)) <|
 chk (in64 (a0 - 1)) <|
 (D_spec_l01In fu (rd (rw_ a1 x426.toNat) 1) 0 (a0 - 1)).bind fun b687 =>
 bif !b687 then
 (some true)
 else
 (chk (inR x426 a1.length) <|
 chk (inR 0 ((rw_ a1 x426.toNat).length)) <|
 chk (inR x426 a1.length) <|
 chk (inR 1 ((rw_ a1 x426.toNat).length)) <|
 some (decide (rd (rw_ a1 x426.toNat) 0 = rd (rw_ a1 x426.toNat) 1)))))).bind fun b645 =>
 bif b645 then
 (some (.out (.inr ((List.replicate 14 0), 2))))
 else
 (chk (in64 (x426 + 1)) <|
 some (.go (x426 + 1))))
 else
 (some (.out (.inl ())))
def D_spec_RoundOf_s1 (fu : Nat) (a0 : Int) (a1 : List (List Int)) : ((List Bool) × Int) → Option (Lo ((List Bool) × Int) (Unit ⊕ ((List Int) × Int))) := fun (bs939, x940) =>
 bif decide (x940 < ((a1.length : Nat) : Int)) then
 ((chk (inR x940 a1.length) <|
 chk (inR 0 ((rw_ a1 x940.toNat).length)) <|
 chk (inR (rd (rw_ a1 x940.toNat) 0) a0.toNat) <|
 bif rdb bs939 ((rd (rw_ a1 x940.toNat) 0).toNat) then
 (some true)
 else
 (chk (inR x940 a1.length) <|
 chk (inR 1 ((rw_ a1 x940.toNat).length)) <|
 chk (inR (rd (rw_ a1 x940.toNat) 1) a0.toNat) <|
 some (rdb bs939 ((rd (rw_ a1 x940.toNat) 1).toNat)))).bind fun b1078 =>
 bif b1078 then
 (some (.out (.inr ((List.replicate 14 0), 5))))
 else
 (chk (inR x940 a1.length) <|
 chk (inR 0 ((rw_ a1 x940.toNat).length)) <|
 chk (inR (rd (rw_ a1 x940.toNat) 0) a0.toNat) <|
 chk (inR x940 a1.length) <|
 chk (inR 1 ((rw_ a1 x940.toNat).length)) <|
 chk (inR (rd (rw_ a1 x940.toNat) 1) a0.toNat) <|
 chk (in64 (x940 + 1)) <|
 some (.go (((bs939.set ((rd (rw_ a1 x940.toNat) 0).toNat) true).set ((rd (rw_ a1 x940.toNat) 1).toNat) true), x940 + 1))))
 else
 (some (.out (.inl ())))
def D_spec_RoundOf (fu : Nat) (a0 : Int) (a1 : List (List Int)) : Option ((List Int) × Int) :=
 ((D_spec_l01In fu a0 2 14).bind fun b116 =>
 bif !b116 then
 (some true)
 else
 (some (decide (14 < ((a1.length : Nat) : Int))))).bind fun b112 =>
 bif b112 then
 (some ((List.replicate 14 0), 2))
 else
 ((loopF (D_spec_RoundOf_s0 fu a0 a1) fu 0).bind fun
 | .inl _ => (chk (0 ≤ a0 ∧ a0 ≤ 4294967296) <|
 (loopF (D_spec_RoundOf_s1 fu a0 a1) fu ((List.replicate a0.toNat false), 0)).bind fun
 | .inl _ => ((D_spec_l01Made fu a0 a1).bind fun xs1154 =>
 some (xs1154, 0))
 | .inr v1163 => some v1163)
 | .inr v1164 => some v1164)
def D_slices_IndexFunc_SSint64_Sint64_s0 (fu : Nat) (a0 : List (List Int)) (a1 : (List Int) → Option Bool) : Int → Option (Lo Int (Unit ⊕ Int)) := fun x141 =>
 bif decide (x141 < ((a0.length : Nat) : Int)) then
 (chk (inR x141 a0.length) <|
 (a1 (rw_ a0 x141.toNat)).bind fun b180 =>
 bif b180 then
 (some (.out (.inr x141)))
 else
 (chk (in64 (x141 + 1)) <|
 some (.go (x141 + 1))))
 else
 (some (.out (.inl ())))
def D_slices_IndexFunc_SSint64_Sint64 (fu : Nat) (a0 : List (List Int)) (a1 : (List Int) → Option Bool) : Option Int :=
 (loopF (D_slices_IndexFunc_SSint64_Sint64_s0 fu a0 a1) fu 0).bind fun
 | .inl _ => (some (-1))
 | .inr v194 => some v194
def D_slices_ContainsFunc_SSint64_Sint64 (fu : Nat) (a0 : List (List Int)) (a1 : (List Int) → Option Bool) : Option Bool :=
 (D_slices_IndexFunc_SSint64_Sint64 fu a0 a1).bind fun x100 =>
 some (decide (0 ≤ x100))
def D_impl_RoundOf_1 (fu : Nat) (a0 : List Int) (b0_0 : Int) : Option Bool :=
 (bif !decide (((a0.length : Nat) : Int) = 2) then
 (some true)
 else
 (chk (inR 0 a0.length) <|
 chk (in64 (b0_0 - 1)) <|
 (D_impl_between fu (rd a0 0) 0 (b0_0 - 1)).bind fun b140 =>
 bif !b140 then
 (some true)
 else
 (chk (inR 1 a0.length) <|
 chk (in64 (b0_0 - 1)) <|
 (D_impl_between fu (rd a0 1) 0 (b0_0 - 1)).bind fun b151 =>
 bif !b151 then
 (some true)
 else
 (chk (inR 0 a0.length) <|
 chk (inR 1 a0.length) <|
 some (decide (rd a0 0 = rd a0 1)))))).bind fun b129 =>
 some b129
def D_impl_RoundOf_s0 (fu : Nat) (a1 : List (List Int)) : ((List Int) × Int) → Option (Lo ((List Int) × Int) ((List Int) ⊕ ((List Int) × Int))) := fun (xs329, x330) =>
 bif decide (x330 < ((a1.length : Nat) : Int)) then
 (chk (inR x330 a1.length) <|
 (chk (inR 0 ((rw_ a1 x330.toNat).length)) <|
 chk (inR (rd (rw_ a1 x330.toNat) 0) 14) <|
 chk (inR 0 ((rw_ a1 x330.toNat).length)) <|
 bif !decide (rd xs329 ((rd (rw_ a1 x330.toNat) 0).toNat) = rd (rw_ a1 x330.toNat) 0) then
 (some true)
 else
 (chk (inR 1 ((rw_ a1 x330.toNat).length)) <|
 chk (inR (rd (rw_ a1 x330.toNat) 1) 14) <|
 chk (inR 1 ((rw_ a1 x330.toNat).length)) <|
 some (!decide (rd xs329 ((rd (rw_ a1 x330.toNat) 1).toNat) = rd (rw_ a1 x330.toNat) 1)))).bind fun b448 =>
 bif b448 then
 (some (.out (.inr ((List.replicate 14 0), 5))))
 else
 (chk (inR 0 ((rw_ a1 x330.toNat).length)) <|
 chk (inR 1 ((rw_ a1 x330.toNat).length)) <|
 (D_impl_Round_meet fu xs329 (rd (rw_ a1 x330.toNat) 0) (rd (rw_ a1 x330.toNat) 1)).bind fun xs486 =>
 chk (in64 (x330 + 1)) <|
 some (.go (xs486, x330 + 1))))
 else
 (some (.out (.inl xs329)))
def D_impl_RoundOf (fu : Nat) (a0 : Int) (a1 : List (List Int)) : Option ((List Int) × Int) :=
 ((D_impl_between fu a0 2 14).bind fun b128 =>
 bif !b128 then
 (some true)
 else
 (bif decide (14 < ((a1.length : Nat) : Int)) then
 (some true)
 else
 ((D_slices_ContainsFunc_SSint64_Sint64 fu a1 (fun x0' => D_impl_RoundOf_1 fu x0' a0)).bind fun b142 =>
 some b142))).bind fun b124 =>
 bif b124 then
 (some ((List.replicate 14 0), 2))
 else
 ((D_impl_free fu a0).bind fun xs157 =>
 (loopF (D_impl_RoundOf_s0 fu a1) fu (xs157, 0)).bind fun
 | .inl xs409 => (some (xs409, 0))
 | .inr v508 => some v508)
def D_spec_l01Circle_s1 (fu : Nat) (a0 : Int) (x540 : Int) : ((List Int) × Int) → Option (Lo ((List Int) × Int) (List Int)) := fun (xs831, x832) =>
 bif decide (x832 < a0 - 1 + (a0.tmod 2)) then
 (chk (in64 (2 * x540)) <|
 chk (in64 (2 * x540 + (a0 - 1 + (a0.tmod 2)))) <|
 chk (in64 (2 * x540 + (a0 - 1 + (a0.tmod 2)) - x832)) <|
 chk ((a0 - 1 + (a0.tmod 2) : Int) ≠ 0) <|
 chk (inR x832 14) <|
 chk (in64 (x832 + 1)) <|
 some (.go ((xs831.set x832.toNat ((2 * x540 + (a0 - 1 + (a0.tmod 2)) - x832).tmod (a0 - 1 + (a0.tmod 2)))), x832 + 1)))
 else
 (some (.out xs831))
def D_spec_l01Circle_s0 (fu : Nat) (a0 : Int) : ((List (List Int)) × Int) → Option (Lo ((List (List Int)) × Int) (List (List Int))) := fun (rs539, x540) =>
 bif decide (x540 < a0 - 1 + (a0.tmod 2)) then
 ((D_spec_l01Free fu a0).bind fun xs767 =>
 (loopF (D_spec_l01Circle_s1 fu a0 x540) fu (xs767, 0)).bind fun xs857 =>
 (bif decide (a0.tmod 2 = 0) then
 (chk (in64 (a0 - 1)) <|
 chk (inR x540 14) <|
 chk (in64 (a0 - 1)) <|
 chk (inR (a0 - 1) 14) <|
 some ((xs857.set x540.toNat (a0 - 1)).set ((a0 - 1).toNat) x540))
 else
 (some xs857)).bind fun xs920 =>
 chk (rs539.length + 1 ≤ 4294967296) <|
 chk (in64 (x540 + 1)) <|
 some (.go ((rs539 ++ [xs920]), x540 + 1)))
 else
 (some (.out rs539))
def D_spec_l01Circle (fu : Nat) (a0 : Int) : Option (Int × (List (List Int))) :=
 chk (in64 (a0 - 1)) <|
 chk (in64 (a0 - 1 + (a0.tmod 2))) <|
 (loopF (D_spec_l01Circle_s0 fu a0) fu ([], 0)).bind fun rs751 =>
 some (a0, rs751)
def D_spec_CircleOf (fu : Nat) (a0 : Int) : Option (Int × (List (List Int)) × Int) :=
 (D_spec_l01In fu a0 2 14).bind fun b104 =>
 bif !b104 then
 (some (0, [], 2))
 else
 ((D_spec_l01Circle fu a0).bind fun (x117, rs118) =>
 some (x117, rs118, 0))
def D_impl_circle_s1 (fu : Nat) (a0 : Int) (x620 : Int) : ((List Int) × Int) → Option (Lo ((List Int) × Int) (List Int)) := fun (xs978, x979) =>
 bif decide (x979 < a0 - 1 + (a0.tmod 2)) then
 (chk (in64 (2 * x620)) <|
 chk (in64 (2 * x620 - x979)) <|
 chk (in64 (2 * x620 - x979 + (a0 - 1 + (a0.tmod 2)))) <|
 chk ((a0 - 1 + (a0.tmod 2) : Int) ≠ 0) <|
 bif decide (x979 < (2 * x620 - x979 + (a0 - 1 + (a0.tmod 2))).tmod (a0 - 1 + (a0.tmod 2))) then
 ((D_impl_Round_meet fu xs978 x979 ((2 * x620 - x979 + (a0 - 1 + (a0.tmod 2))).tmod (a0 - 1 + (a0.tmod 2)))).bind fun xs1042 =>
 chk (in64 (x979 + 1)) <|
 some (.go (xs1042, x979 + 1)))
 else
 (chk (in64 (x979 + 1)) <|
 some (.go (xs978, x979 + 1))))
 else
 (some (.out xs978))
def D_impl_circle_s0 (fu : Nat) (a0 : Int) : ((List (List Int)) × Int) → Option (Lo ((List (List Int)) × Int) (List (List Int))) := fun (rs619, x620) =>
 bif decide (x620 < a0 - 1 + (a0.tmod 2)) then
 ((D_impl_free fu a0).bind fun xs892 =>
 (loopF (D_impl_circle_s1 fu a0 x620) fu (xs892, 0)).bind fun xs1014 =>
 (bif decide (a0.tmod 2 = 0) then
 (chk (in64 (a0 - 1)) <|
 (D_impl_Round_meet fu xs1014 (a0 - 1) x620).bind fun xs1100 =>
 some xs1100)
 else
 (some xs1014)).bind fun xs1091 =>
 chk (rs619.length + 1 ≤ 4294967296) <|
 chk (in64 (x620 + 1)) <|
 some (.go ((rs619 ++ [xs1091]), x620 + 1)))
 else
 (some (.out rs619))
def D_impl_circle (fu : Nat) (a0 : Int) : Option (Int × (List (List Int))) :=
 chk (in64 (a0 - 1)) <|
 chk (in64 (a0 - 1 + (a0.tmod 2))) <|
 (loopF (D_impl_circle_s0 fu a0) fu ([], 0)).bind fun rs876 =>
 some (a0, rs876)
def D_impl_CircleOf (fu : Nat) (a0 : Int) : Option (Int × (List (List Int)) × Int) :=
 (D_impl_between fu a0 2 14).bind fun b104 =>
 bif !b104 then
 (some (0, [], 2))
 else
 ((D_impl_circle fu a0).bind fun (x117, rs118) =>
 some (x117, rs118, 0))
end Go.Proofs.Ytocaepkkaihiiaa
