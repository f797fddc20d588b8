/-
  What functions of the program compute, printed by a program. No condition.
-/
import Derived.Test.YtakfkiahhfdjfaaDE
import Derived.Test.YtakfkiahhfdjfaaDD
namespace Go.Proofs.Ytakfkiahhfdjfaa
open Go Am
set_option linter.unusedVariables false
def D_spec_l01Order_s0 (fu : Nat) (a0 : List Int) (a1 : Int) : ((List Bool) × Int) → Option (Lo ((List Bool) × Int) (Unit ⊕ Bool)) := fun (bs225, x226) =>
 bif decide (x226 < ((a0.length : Nat) : Int)) then
 ((chk (inR x226 a0.length) <|
 chk (in64 (a1 - 1)) <|
 (D_spec_l01In fu (rd a0 x226.toNat) 0 (a1 - 1)).bind fun b321 =>
 bif !b321 then
 (some true)
 else
 (chk (inR x226 a0.length) <|
 chk (inR (rd a0 x226.toNat) a1.toNat) <|
 some (rdb bs225 ((rd a0 x226.toNat).toNat)))).bind fun b313 =>
 bif b313 then
 (some (.out (.inr false)))
 else
 (chk (inR x226 a0.length) <|
 chk (inR (rd a0 x226.toNat) a1.toNat) <|
 chk (in64 (x226 + 1)) <|
 some (.go ((bs225.set ((rd a0 x226.toNat).toNat) true), x226 + 1))))
 else
 (some (.out (.inl ())))
def D_spec_l01Order (fu : Nat) (a0 : List Int) (a1 : Int) : Option Bool :=
 chk (0 ≤ a1 ∧ a1 ≤ 4294967296) <|
 (loopF (D_spec_l01Order_s0 fu a0 a1) fu ((List.replicate a1.toNat false), 0)).bind fun
 | .inl _ => (some (decide (((a0.length : Nat) : Int) = a1)))
 | .inr v356 => some v356
def D_spec_l01Reordered_s0 (fu : Nat) (a0_1 : List (List Int)) (a1 : List Int) : ((List (List Int)) × Int) → Option (Lo ((List (List Int)) × Int) (List (List Int))) := fun (rs188, x189) =>
 bif decide (x189 < ((a1.length : Nat) : Int)) then
 (chk (inR x189 a1.length) <|
 chk (inR (rd a1 x189.toNat) a0_1.length) <|
 chk (rs188.length + 1 ≤ 4294967296) <|
 chk (in64 (x189 + 1)) <|
 some (.go ((rs188 ++ [(rw_ a0_1 ((rd a1 x189.toNat).toNat))]), x189 + 1)))
 else
 (some (.out rs188))
def D_spec_l01Reordered (fu : Nat) (a0_0 : Int) (a0_1 : List (List Int)) (a1 : List Int) : Option (Int × (List (List Int))) :=
 (loopF (D_spec_l01Reordered_s0 fu a0_1 a1) fu ([], 0)).bind fun rs221 =>
 some (a0_0, rs221)
def D_spec_ReorderRounds (fu : Nat) (a0_0 : Int) (a0_1 : List (List Int)) (a1 : List Int) : Option (Int × (List (List Int)) × Int) :=
 (D_spec_l01Is fu a0_0 a0_1).bind fun b108 =>
 bif !b108 then
 (some (0, [], 1))
 else
 ((D_spec_l01Order fu a1 ((a0_1.length : Nat) : Int)).bind fun b121 =>
 bif !b121 then
 (some (0, [], 2))
 else
 ((D_spec_l01Reordered fu a0_0 a0_1 a1).bind fun (x134, rs135) =>
 some (x134, rs135, 0)))
def D_impl_size_impl_Round (fu : Nat) (a0 : List (List Int)) : Option Int :=
 some ((a0.length : Nat) : Int)
def D_impl_isOrder_s0 (fu : Nat) (xs108 : List Int) : Int → Option (Lo Int (Unit ⊕ Bool)) := fun x149 =>
 bif decide (x149 < ((xs108.length : Nat) : Int)) then
 (chk (inR x149 xs108.length) <|
 bif !decide (rd xs108 x149.toNat = x149) then
 (some (.out (.inr false)))
 else
 (chk (in64 (x149 + 1)) <|
 some (.go (x149 + 1))))
 else
 (some (.out (.inl ())))
def D_impl_isOrder (fu : Nat) (a0 : List Int) (a1 : Int) : Option Bool :=
 (D_slices_Values_Sint64_int64 fu a0).bind fun _ =>
 (D_slices_Sorted_int64 fu a0).bind fun xs108 =>
 (loopF (D_impl_isOrder_s0 fu xs108) fu 0).bind fun
 | .inl _ => ((D_impl_size_int64 fu a0).bind fun x192 =>
 some (decide (x192 = a1)))
 | .inr v196 => some v196
def D_impl_ReorderRounds_1 (fu : Nat) (b0_0 : List Int) (b1_0 : Int) (b1_1 : List (List Int)) : Option Bool :=
 (D_impl_size_impl_Round fu b1_1).bind fun x100 =>
 (D_impl_isOrder fu b0_0 x100).bind fun b104 =>
 some b104
def D_slices_Clone_Simpl_Round_impl_Round (fu : Nat) (a0 : List (List Int)) : Option (List (List Int)) :=
 chk (0 + a0.length ≤ 4294967296) <|
 some a0
def D_impl_Schedule_with (fu : Nat) (a0_0 : Int) (a0_1 : List (List Int)) (a1 : List (List Int)) : Option (Int × (List (List Int))) :=
 (D_slices_Clone_Simpl_Round_impl_Round fu a1).bind fun rs108 =>
 some (a0_0, rs108)
def D_impl_ReorderRounds_s0 (fu : Nat) (a0_1 : List (List Int)) (a1 : List Int) : ((List (List Int)) × Int) → Option (Lo ((List (List Int)) × Int) (List (List Int))) := fun (rs214, x215) =>
 bif decide (x215 < ((a1.length : Nat) : Int)) then
 (chk (inR x215 a1.length) <|
 chk (inR (rd a1 x215.toNat) a0_1.length) <|
 chk (rs214.length + 1 ≤ 4294967296) <|
 chk (in64 (x215 + 1)) <|
 some (.go ((rs214 ++ [(rw_ a0_1 ((rd a1 x215.toNat).toNat))]), x215 + 1)))
 else
 (some (.out rs214))
def D_impl_ReorderRounds (fu : Nat) (a0_0 : Int) (a0_1 : List (List Int)) (a1 : List Int) : Option (Int × (List (List Int)) × Int) :=
 (D_impl_scheduleCode fu a0_0 a0_1 (fun _ => D_impl_ReorderRounds_1 fu a1 a0_0 a0_1)).bind fun x112 =>
 bif !decide (x112 = 0) then
 (some (0, [], x112))
 else
 ((D_impl_Schedule_with fu a0_0 a0_1 []).bind fun (x125, rs126) =>
 (loopF (D_impl_ReorderRounds_s0 fu a0_1 a1) fu (rs126, 0)).bind fun rs247 =>
 some (x125, rs247, 0))
def D_spec_l01Renamed_s1 (fu : Nat) (a0_0 : Int) (a0_1 : List (List Int)) (a1 : List Int) (x451 : Int) : ((List Int) × Int) → Option (Lo ((List Int) × Int) (List Int)) := fun (xs692, x693) =>
 bif decide (x693 < a0_0) then
 (chk (inR x693 a1.length) <|
 chk (inR x451 a0_1.length) <|
 chk (inR x693 14) <|
 chk (inR (rd (rw_ a0_1 x451.toNat) x693.toNat) a1.length) <|
 chk (inR (rd a1 x693.toNat) 14) <|
 chk (in64 (x693 + 1)) <|
 some (.go ((xs692.set ((rd a1 x693.toNat).toNat) (rd a1 ((rd (rw_ a0_1 x451.toNat) x693.toNat).toNat))), x693 + 1)))
 else
 (some (.out xs692))
def D_spec_l01Renamed_s0 (fu : Nat) (a0_0 : Int) (a0_1 : List (List Int)) (a1 : List Int) : ((List (List Int)) × Int) → Option (Lo ((List (List Int)) × Int) (List (List Int))) := fun (rs450, x451) =>
 bif decide (x451 < ((a0_1.length : Nat) : Int)) then
 ((loopF (D_spec_l01Renamed_s1 fu a0_0 a0_1 a1 x451) fu ((List.replicate 14 0), 0)).bind fun xs719 =>
 chk (rs450.length + 1 ≤ 4294967296) <|
 chk (in64 (x451 + 1)) <|
 some (.go ((rs450 ++ [xs719]), x451 + 1)))
 else
 (some (.out rs450))
def D_spec_l01Renamed (fu : Nat) (a0_0 : Int) (a0_1 : List (List Int)) (a1 : List Int) : Option (Int × (List (List Int))) :=
 (loopF (D_spec_l01Renamed_s0 fu a0_0 a0_1 a1) fu ([], 0)).bind fun rs614 =>
 some (a0_0, rs614)
def D_spec_RenumberTeams (fu : Nat) (a0_0 : Int) (a0_1 : List (List Int)) (a1 : List Int) : Option (Int × (List (List Int)) × Int) :=
 (D_spec_l01Is fu a0_0 a0_1).bind fun b108 =>
 bif !b108 then
 (some (0, [], 1))
 else
 ((D_spec_l01Order fu a1 a0_0).bind fun b121 =>
 bif !b121 then
 (some (0, [], 2))
 else
 ((D_spec_l01Renamed fu a0_0 a0_1 a1).bind fun (x134, rs135) =>
 some (x134, rs135, 0)))
def D_impl_RenumberTeams_1 (fu : Nat) (b0_0 : List Int) (b1_0 : Int) (b1_1 : List (List Int)) : Option Bool :=
 (D_impl_isOrder fu b0_0 b1_0).bind fun b100 =>
 some b100
def D_impl_Round_renumbered_s0 (fu : Nat) (a0 : List Int) (a1 : Int) (a2 : List Int) : ((List Int) × Int) → Option (Lo ((List Int) × Int) (List Int)) := fun (xs159, x160) =>
 bif decide (x160 < a1) then
 (chk (inR x160 a2.length) <|
 chk (inR x160 14) <|
 chk (inR (rd a0 x160.toNat) a2.length) <|
 chk (inR (rd a2 x160.toNat) 14) <|
 chk (in64 (x160 + 1)) <|
 some (.go ((xs159.set ((rd a2 x160.toNat).toNat) (rd a2 ((rd a0 x160.toNat).toNat))), x160 + 1)))
 else
 (some (.out xs159))
def D_impl_Round_renumbered (fu : Nat) (a0 : List Int) (a1 : Int) (a2 : List Int) : Option (List Int) :=
 (loopF (D_impl_Round_renumbered_s0 fu a0 a1 a2) fu ((List.replicate 14 0), 0)).bind fun xs181 =>
 some xs181
def D_impl_RenumberTeams_s0 (fu : Nat) (a0_0 : Int) (a0_1 : List (List Int)) (a1 : List Int) : ((List (List Int)) × Int) → Option (Lo ((List (List Int)) × Int) (List (List Int))) := fun (rs237, x238) =>
 bif decide (x238 < ((a0_1.length : Nat) : Int)) then
 (chk (inR x238 a0_1.length) <|
 (D_impl_Round_renumbered fu (rw_ a0_1 x238.toNat) a0_0 a1).bind fun xs306 =>
 chk (rs237.length + 1 ≤ 4294967296) <|
 chk (in64 (x238 + 1)) <|
 some (.go ((rs237 ++ [xs306]), x238 + 1)))
 else
 (some (.out rs237))
def D_impl_RenumberTeams (fu : Nat) (a0_0 : Int) (a0_1 : List (List Int)) (a1 : List Int) : Option (Int × (List (List Int)) × Int) :=
 (D_impl_scheduleCode fu a0_0 a0_1 (fun _ => D_impl_RenumberTeams_1 fu a1 a0_0 a0_1)).bind fun x112 =>
 bif !decide (x112 = 0) then
 (some (0, [], x112))
 else
 ((D_impl_Schedule_with fu a0_0 a0_1 []).bind fun (x125, rs126) =>
 (loopF (D_impl_RenumberTeams_s0 fu a0_0 a0_1 a1) fu (rs126, 0)).bind fun rs280 =>
 some (x125, rs280, 0))
end Go.Proofs.Ytakfkiahhfdjfaa
