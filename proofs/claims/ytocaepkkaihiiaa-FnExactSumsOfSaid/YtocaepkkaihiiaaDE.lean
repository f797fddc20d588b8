/-
  What functions of the program compute, printed by a program. No condition.
-/
import Derived.Test.YtocaepkkaihiiaaDB
namespace Go.Proofs.Ytocaepkkaihiiaa
open Go Am
set_option linter.unusedVariables false
def D_spec_l01Is_s0 (fu : Nat) (a0_0 : Int) (a0_1 : List (List Int)) : Int → Option (Lo Int (Unit ⊕ Bool)) := fun x169 =>
 bif decide (x169 < ((a0_1.length : Nat) : Int)) then
 (chk (inR x169 a0_1.length) <|
 (D_spec_l01Round fu a0_0 (rw_ a0_1 x169.toNat)).bind fun b202 =>
 bif !b202 then
 (some (.out (.inr false)))
 else
 (chk (in64 (x169 + 1)) <|
 some (.go (x169 + 1))))
 else
 (some (.out (.inl ())))
def D_spec_l01Is (fu : Nat) (a0_0 : Int) (a0_1 : List (List Int)) : Option Bool :=
 ((D_spec_l01In fu a0_0 2 14).bind fun b116 =>
 bif !b116 then
 (some true)
 else
 (some (decide (40 < ((a0_1.length : Nat) : Int))))).bind fun b112 =>
 bif b112 then
 (some false)
 else
 ((loopF (D_spec_l01Is_s0 fu a0_0 a0_1) fu 0).bind fun
 | .inl _ => (some true)
 | .inr v219 => some v219)
def D_spec_l01Copy (fu : Nat) (a0_0 : Int) (a0_1 : List (List Int)) : Option (Int × (List (List Int))) :=
 chk (0 + a0_1.length ≤ 4294967296) <|
 some (a0_0, a0_1)
def D_spec_AddRound (fu : Nat) (a0_0 : Int) (a0_1 : List (List Int)) (a1 : List Int) : Option (Int × (List (List Int)) × Int) :=
 (D_spec_l01Is fu a0_0 a0_1).bind fun b112 =>
 bif !b112 then
 (some (0, [], 1))
 else
 ((D_spec_l01Round fu a0_0 a1).bind fun b125 =>
 bif !b125 then
 (some (0, [], 2))
 else
 (bif decide (((a0_1.length : Nat) : Int) = 40) then
 (some (0, [], 3))
 else
 ((D_spec_l01Copy fu a0_0 a0_1).bind fun (x147, rs148) =>
 chk (rs148.length + 1 ≤ 4294967296) <|
 some (x147, (rs148 ++ [a1]), 0))))
def D_slices_IndexFunc_Simpl_Round_impl_Round_s0 (fu : Nat) (a0 : List (List Int)) (a1 : (List Int) → Option Bool) : Int → Option (Lo Int (Unit ⊕ Int)) := fun x133 =>
 bif decide (x133 < ((a0.length : Nat) : Int)) then
 (chk (inR x133 a0.length) <|
 (a1 (rw_ a0 x133.toNat)).bind fun b164 =>
 bif b164 then
 (some (.out (.inr x133)))
 else
 (chk (in64 (x133 + 1)) <|
 some (.go (x133 + 1))))
 else
 (some (.out (.inl ())))
def D_slices_IndexFunc_Simpl_Round_impl_Round (fu : Nat) (a0 : List (List Int)) (a1 : (List Int) → Option Bool) : Option Int :=
 (loopF (D_slices_IndexFunc_Simpl_Round_impl_Round_s0 fu a0 a1) fu 0).bind fun
 | .inl _ => (some (-1))
 | .inr v178 => some v178
def D_slices_ContainsFunc_Simpl_Round_impl_Round (fu : Nat) (a0 : List (List Int)) (a1 : (List Int) → Option Bool) : Option Bool :=
 (D_slices_IndexFunc_Simpl_Round_impl_Round fu a0 a1).bind fun x100 =>
 some (decide (0 ≤ x100))
def D_impl_IsSchedule_1 (fu : Nat) (a0 : List Int) (b0_0 : Int) (b0_1 : List (List Int)) : Option Bool :=
 (D_impl_IsRound fu b0_0 a0).bind fun b104 =>
 some (!b104)
def D_impl_IsSchedule (fu : Nat) (a0_0 : Int) (a0_1 : List (List Int)) : Option Bool :=
 ((D_impl_between fu a0_0 2 14).bind fun b122 =>
 bif b122 then
 (bif decide (((a0_1.length : Nat) : Int) ≤ 40) then
 ((D_slices_ContainsFunc_Simpl_Round_impl_Round fu a0_1 (fun x0' => D_impl_IsSchedule_1 fu x0' a0_0 a0_1)).bind fun b130 =>
 some (!b130))
 else
 (some false))
 else
 (some false)).bind fun b118 =>
 some b118
def D_impl_scheduleCode (fu : Nat) (a0_0 : Int) (a0_1 : List (List Int)) (a1 : Unit → Option Bool) : Option Int :=
 (D_impl_IsSchedule fu a0_0 a0_1).bind fun b104 =>
 bif !b104 then
 (some 1)
 else
 ((a1 ()).bind fun b111 =>
 bif !b111 then
 (some 2)
 else
 (some 0))
def D_impl_AddRound_1 (fu : Nat) (b0_0 : Int) (b0_1 : List (List Int)) (b1_0 : List Int) : Option Bool :=
 (D_impl_IsRound fu b0_0 b1_0).bind fun b100 =>
 some b100
def D_slices_Clone_Simpl_Round_impl_Round (fu : Nat) (a0 : List (List Int)) : Option (List (List Int)) :=
 chk (0 + a0.length ≤ 4294967296) <|
 some a0
def D_impl_Schedule_with (fu : Nat) (a0_0 : Int) (a0_1 : List (List Int)) (a1 : List (List Int)) : Option (Int × (List (List Int))) :=
 (D_slices_Clone_Simpl_Round_impl_Round fu a1).bind fun rs108 =>
 some (a0_0, rs108)
def D_impl_AddRound (fu : Nat) (a0_0 : Int) (a0_1 : List (List Int)) (a1 : List Int) : Option (Int × (List (List Int)) × Int) :=
 (D_impl_scheduleCode fu a0_0 a0_1 (fun _ => D_impl_AddRound_1 fu a0_0 a0_1 a1)).bind fun x112 =>
 (bif (decide (x112 = 0)) && (decide (((a0_1.length : Nat) : Int) = 40)) then
 (some 3)
 else
 (some x112)).bind fun x127 =>
 bif !decide (x127 = 0) then
 (some (0, [], x127))
 else
 ((D_slices_Clone_Simpl_Round_impl_Round fu a0_1).bind fun rs152 =>
 chk (rs152.length + 1 ≤ 4294967296) <|
 (D_impl_Schedule_with fu a0_0 a0_1 (rs152 ++ [a1])).bind fun (x176, rs177) =>
 some (x176, rs177, 0))
def D_spec_l01Teams_s0 (fu : Nat) (a0_0 : Int) (a1 : List Int) : Int → Option (Lo Int (Unit ⊕ Int)) := fun x153 =>
 bif decide (x153 < ((a1.length : Nat) : Int)) then
 (chk (inR x153 a1.length) <|
 chk (in64 (a0_0 - 1)) <|
 (D_spec_l01In fu (rd a1 x153.toNat) 0 (a0_0 - 1)).bind fun b190 =>
 bif !b190 then
 (some (.out (.inr 2)))
 else
 (chk (in64 (x153 + 1)) <|
 some (.go (x153 + 1))))
 else
 (some (.out (.inl ())))
def D_spec_l01Teams (fu : Nat) (a0_0 : Int) (a0_1 : List (List Int)) (a1 : List Int) : Option Int :=
 (D_spec_l01Is fu a0_0 a0_1).bind fun b104 =>
 bif !b104 then
 (some 1)
 else
 ((loopF (D_spec_l01Teams_s0 fu a0_0 a1) fu 0).bind fun
 | .inl _ => (some 0)
 | .inr v207 => some v207)
def D_spec_OpponentsOf_s0 (fu : Nat) (a0_1 : List (List Int)) (a1 : Int) : ((List Int) × Int) → Option (Lo ((List Int) × Int) (List Int)) := fun (xs224, x225) =>
 bif decide (x225 < ((a0_1.length : Nat) : Int)) then
 (chk (inR x225 a0_1.length) <|
 chk (inR a1 14) <|
 bif decide (rd (rw_ a0_1 x225.toNat) a1.toNat = a1) then
 (chk (xs224.length + 1 ≤ 4294967296) <|
 chk (in64 (x225 + 1)) <|
 some (.go ((xs224 ++ [(-1)]), x225 + 1)))
 else
 (chk (inR x225 a0_1.length) <|
 chk (inR a1 14) <|
 chk (xs224.length + 1 ≤ 4294967296) <|
 chk (in64 (x225 + 1)) <|
 some (.go ((xs224 ++ [rd (rw_ a0_1 x225.toNat) a1.toNat]), x225 + 1))))
 else
 (some (.out xs224))
def D_spec_OpponentsOf (fu : Nat) (a0_0 : Int) (a0_1 : List (List Int)) (a1 : Int) : Option ((List Int) × Int) :=
 (D_spec_l01Teams fu a0_0 a0_1 [a1]).bind fun x108 =>
 bif !decide (x108 = 0) then
 (some ([], x108))
 else
 ((loopF (D_spec_OpponentsOf_s0 fu a0_1 a1) fu ([], 0)).bind fun xs274 =>
 some (xs274, 0))
def D_impl_Schedule_hasTeam (fu : Nat) (a0_0 : Int) (a0_1 : List (List Int)) (a1 : Int) : Option Bool :=
 chk (in64 (a0_0 - 1)) <|
 (D_impl_between fu a1 0 (a0_0 - 1)).bind fun b106 =>
 some b106
def D_impl_OpponentsOf_1 (fu : Nat) (b0_0 : Int) (b0_1 : List (List Int)) (b1_0 : Int) : Option Bool :=
 (D_impl_Schedule_hasTeam fu b0_0 b0_1 b1_0).bind fun b100 =>
 some b100
def D_impl_OpponentsOf_s0 (fu : Nat) (a0_1 : List (List Int)) (a1 : Int) : ((List Int) × Int) → Option (Lo ((List Int) × Int) (List Int)) := fun (xs236, x237) =>
 bif decide (x237 < ((a0_1.length : Nat) : Int)) then
 (chk (inR x237 a0_1.length) <|
 chk (inR a1 14) <|
 (bif decide (rd (rw_ a0_1 x237.toNat) a1.toNat = a1) then
 (some (-1))
 else
 (some (rd (rw_ a0_1 x237.toNat) a1.toNat))).bind fun x323 =>
 chk (xs236.length + 1 ≤ 4294967296) <|
 chk (in64 (x237 + 1)) <|
 some (.go ((xs236 ++ [x323]), x237 + 1)))
 else
 (some (.out xs236))
def D_impl_OpponentsOf (fu : Nat) (a0_0 : Int) (a0_1 : List (List Int)) (a1 : Int) : Option ((List Int) × Int) :=
 (D_impl_scheduleCode fu a0_0 a0_1 (fun _ => D_impl_OpponentsOf_1 fu a0_0 a0_1 a1)).bind fun x108 =>
 bif !decide (x108 = 0) then
 (some ([], x108))
 else
 ((loopF (D_impl_OpponentsOf_s0 fu a0_1 a1) fu ([], 0)).bind fun xs292 =>
 some (xs292, 0))
def D_spec_RoundsBetween_s0 (fu : Nat) (a0_1 : List (List Int)) (a1 : Int) (a2 : Int) : ((List Int) × Int) → Option (Lo ((List Int) × Int) (List Int)) := fun (xs215, x216) =>
 bif decide (x216 < ((a0_1.length : Nat) : Int)) then
 (chk (inR x216 a0_1.length) <|
 chk (inR a1 14) <|
 bif decide (rd (rw_ a0_1 x216.toNat) a1.toNat = a2) then
 (chk (xs215.length + 1 ≤ 4294967296) <|
 chk (in64 (x216 + 1)) <|
 some (.go ((xs215 ++ [x216]), x216 + 1)))
 else
 (chk (in64 (x216 + 1)) <|
 some (.go (xs215, x216 + 1))))
 else
 (some (.out xs215))
def D_spec_RoundsBetween (fu : Nat) (a0_0 : Int) (a0_1 : List (List Int)) (a1 : Int) (a2 : Int) : Option ((List Int) × Int) :=
 (D_spec_l01Teams fu a0_0 a0_1 [a1, a2]).bind fun x108 =>
 (bif (decide (x108 = 0)) && (decide (a1 = a2)) then
 (some 2)
 else
 (some x108)).bind fun x121 =>
 bif !decide (x121 = 0) then
 (some ([], x121))
 else
 ((loopF (D_spec_RoundsBetween_s0 fu a0_1 a1 a2) fu ([], 0)).bind fun xs249 =>
 some (xs249, 0))
def D_impl_RoundsBetween_1 (fu : Nat) (b0_0 : Int) (b0_1 : List (List Int)) (b1_0 : Int) (b2_0 : Int) : Option Bool :=
 ((D_impl_Schedule_hasTeam fu b0_0 b0_1 b1_0).bind fun b118 =>
 bif b118 then
 ((D_impl_Schedule_hasTeam fu b0_0 b0_1 b2_0).bind fun b124 =>
 bif b124 then
 (some (!decide (b1_0 = b2_0)))
 else
 (some false))
 else
 (some false)).bind fun b114 =>
 some b114
def D_impl_RoundsBetween_s0 (fu : Nat) (a0_1 : List (List Int)) (a1 : Int) (a2 : Int) : ((List Int) × Int) → Option (Lo ((List Int) × Int) (List Int)) := fun (xs211, x212) =>
 bif decide (x212 < ((a0_1.length : Nat) : Int)) then
 (chk (inR x212 a0_1.length) <|
 chk (inR a1 14) <|
 bif decide (rd (rw_ a0_1 x212.toNat) a1.toNat = a2) then
 (chk (xs211.length + 1 ≤ 4294967296) <|
 chk (in64 (x212 + 1)) <|
 some (.go ((xs211 ++ [x212]), x212 + 1)))
 else
 (chk (in64 (x212 + 1)) <|
 some (.go (xs211, x212 + 1))))
 else
 (some (.out xs211))
def D_impl_RoundsBetween (fu : Nat) (a0_0 : Int) (a0_1 : List (List Int)) (a1 : Int) (a2 : Int) : Option ((List Int) × Int) :=
 (D_impl_scheduleCode fu a0_0 a0_1 (fun _ => D_impl_RoundsBetween_1 fu a0_0 a0_1 a1 a2)).bind fun x112 =>
 bif !decide (x112 = 0) then
 (some ([], x112))
 else
 ((loopF (D_impl_RoundsBetween_s0 fu a0_1 a1 a2) fu ([], 0)).bind fun xs251 =>
 some (xs251, 0))
end Go.Proofs.Ytocaepkkaihiiaa
