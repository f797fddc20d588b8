/-
  What functions of the program compute, printed by a program. No condition.
-/
import Derived.Test.YtdafmafigcljkaaDA
import Derived.Test.YtdafmafigcljkaaBit
import Derived.Test.YtdafmafigcljkaaFb
namespace Go.Proofs.Ytdafmafigcljkaa
open Go Am
set_option linter.unusedVariables false
def D_slices_IndexFunc_Simpl_Round_impl_Round_s0 (fu : Nat) (a0 : List (List Int)) (a1 : (List Int) → Option Bool) : Int → Option (Lo Int (Unit ⊕ Int)) := fun x133 =>
 bif decide (x133 < ((a0.length : Nat) : Int)) then
 (chk (inR x133 a0.length) <|
 (a1 (rw_ a0 x133.toNat)).bind fun b164 =>
 bif b164 then
 (some (.out (.inr x133)))
 else
 (chk (in64 (x133 + 1)) <|
 some (.go (x133 + 1))))
 else
 (some (.out (.inl ())))
def D_slices_IndexFunc_Simpl_Round_impl_Round (fu : Nat) (a0 : List (List Int)) (a1 : (List Int) → Option Bool) : Option Int :=
 (loopF (D_slices_IndexFunc_Simpl_Round_impl_Round_s0 fu a0 a1) fu 0).bind fun
 | .inl _ => (some (-1))
 | .inr v178 => some v178
def D_slices_ContainsFunc_Simpl_Round_impl_Round (fu : Nat) (a0 : List (List Int)) (a1 : (List Int) → Option Bool) : Option Bool :=
 (D_slices_IndexFunc_Simpl_Round_impl_Round fu a0 a1).bind fun x100 =>
 some (decide (0 ≤ x100))
def D_impl_IsRound_s0 (fu : Nat) (a0 : Int) (a1 : List Int) : Int → Option (Lo Int (Unit ⊕ Bool)) := fun x305 =>
 bif decide (x305 < 14) then
 (chk (inR x305 14) <|
 (bif decide (a0 ≤ x305) then
 (bif !decide (rd a1 x305.toNat = 0) then
 (some true)
 else
 (bif decide (x305 < a0) then
 (chk (in64 (a0 - 1)) <|
 (D_impl_between fu (rd a1 x305.toNat) 0 (a0 - 1)).bind fun b466 =>
 bif !b466 then
 (some true)
 else
 (chk (inR (rd a1 x305.toNat) 14) <|
 some (!decide (rd a1 ((rd a1 x305.toNat).toNat) = x305))))
 else
 (some false)))
 else
 (bif decide (x305 < a0) then
 (chk (in64 (a0 - 1)) <|
 (D_impl_between fu (rd a1 x305.toNat) 0 (a0 - 1)).bind fun b484 =>
 bif !b484 then
 (some true)
 else
 (chk (inR (rd a1 x305.toNat) 14) <|
 some (!decide (rd a1 ((rd a1 x305.toNat).toNat) = x305))))
 else
 (some false))).bind fun b452 =>
 bif b452 then
 (some (.out (.inr false)))
 else
 (chk (in64 (x305 + 1)) <|
 some (.go (x305 + 1))))
 else
 (some (.out (.inl ())))
def D_impl_IsRound (fu : Nat) (a0 : Int) (a1 : List Int) : Option Bool :=
 (D_impl_between fu a0 2 14).bind fun b104 =>
 bif !b104 then
 (some false)
 else
 ((loopF (D_impl_IsRound_s0 fu a0 a1) fu 0).bind fun
 | .inl _ => (some true)
 | .inr v513 => some v513)
def D_impl_IsSchedule_1 (fu : Nat) (a0 : List Int) (b0_0 : Int) (b0_1 : List (List Int)) : Option Bool :=
 (D_impl_IsRound fu b0_0 a0).bind fun b104 =>
 some (!b104)
def D_impl_IsSchedule (fu : Nat) (a0_0 : Int) (a0_1 : List (List Int)) : Option Bool :=
 ((D_impl_between fu a0_0 2 14).bind fun b122 =>
 bif b122 then
 (bif decide (((a0_1.length : Nat) : Int) ≤ 40) then
 ((D_slices_ContainsFunc_Simpl_Round_impl_Round fu a0_1 (fun x0' => D_impl_IsSchedule_1 fu x0' a0_0 a0_1)).bind fun b130 =>
 some (!b130))
 else
 (some false))
 else
 (some false)).bind fun b118 =>
 some b118
def D_impl_scheduleCode (fu : Nat) (a0_0 : Int) (a0_1 : List (List Int)) (a1 : Unit → Option Bool) : Option Int :=
 (D_impl_IsSchedule fu a0_0 a0_1).bind fun b104 =>
 bif !b104 then
 (some 1)
 else
 ((a1 ()).bind fun b111 =>
 bif !b111 then
 (some 2)
 else
 (some 0))
def D_impl_Round_pairs_s0 (fu : Nat) (a0 : List Int) (a1 : Int) : ((List (List Int)) × Int) → Option (Lo ((List (List Int)) × Int) (List (List Int))) := fun (rs189, x191) =>
 bif decide (x191 < a1) then
 (chk (inR x191 14) <|
 bif decide (x191 < rd a0 x191.toNat) then
 (chk (inR x191 14) <|
 chk (rs189.length + 1 ≤ 4294967296) <|
 chk (in64 (x191 + 1)) <|
 some (.go ((rs189 ++ [[x191, rd a0 x191.toNat]]), x191 + 1)))
 else
 (chk (in64 (x191 + 1)) <|
 some (.go (rs189, x191 + 1))))
 else
 (some (.out rs189))
def D_impl_Round_pairs (fu : Nat) (a0 : List Int) (a1 : Int) : Option (List (List Int)) :=
 (loopF (D_impl_Round_pairs_s0 fu a0 a1) fu ([], 0)).bind fun rs231 =>
 some rs231
def D_impl_Schedule_firstVenues_s1 (fu : Nat) (a0_0 : Int) (a0_1 : List (List Int)) (x545 : Int) : ((List Int) × Int) → Option (Lo ((List Int) × Int) (List Int)) := fun (xs861, x862) =>
 bif decide (x862 < a0_0) then
 (chk (inR x862 14) <|
 bif decide (rd (rw_ a0_1 x545.toNat) x862.toNat = x862) then
 (chk (inR x862 a0_0.toNat) <|
 chk (in64 (x862 + 1)) <|
 some (.go ((xs861.set x862.toNat (-1)), x862 + 1)))
 else
 (chk (inR x862 14) <|
 bif decide (x862 < rd (rw_ a0_1 x545.toNat) x862.toNat) then
 (chk (inR x862 a0_0.toNat) <|
 chk (in64 (x862 + 1)) <|
 some (.go ((xs861.set x862.toNat 1), x862 + 1)))
 else
 (chk (in64 (x862 + 1)) <|
 some (.go (xs861, x862 + 1)))))
 else
 (some (.out xs861))
def D_impl_Schedule_firstVenues_s0 (fu : Nat) (a0_0 : Int) (a0_1 : List (List Int)) : ((List (List Int)) × Int) → Option (Lo ((List (List Int)) × Int) (List (List Int))) := fun (rs543, x545) =>
 bif decide (x545 < ((a0_1.length : Nat) : Int)) then
 (chk (inR x545 a0_1.length) <|
 chk (0 ≤ a0_0 ∧ a0_0 ≤ 4294967296) <|
 (loopF (D_impl_Schedule_firstVenues_s1 fu a0_0 a0_1 x545) fu ((List.replicate a0_0.toNat 0), 0)).bind fun xs896 =>
 chk (rs543.length + 1 ≤ 4294967296) <|
 chk (in64 (x545 + 1)) <|
 some (.go ((rs543 ++ [xs896]), x545 + 1)))
 else
 (some (.out rs543))
def D_impl_Schedule_firstVenues (fu : Nat) (a0_0 : Int) (a0_1 : List (List Int)) : Option (List (List Int)) :=
 (loopF (D_impl_Schedule_firstVenues_s0 fu a0_0 a0_1) fu ([], 0)).bind fun rs760 =>
 some rs760
def D_impl_total_s0 (fu : Nat) (a0 : List Int) : (Int × Int) → Option (Lo (Int × Int) Int) := fun (x126, x127) =>
 bif decide (x127 < ((a0.length : Nat) : Int)) then
 (chk (inR x127 a0.length) <|
 chk (in64 (x126 + (rd a0 x127.toNat))) <|
 chk (in64 (x127 + 1)) <|
 some (.go (x126 + (rd a0 x127.toNat), x127 + 1)))
 else
 (some (.out x126))
def D_impl_total (fu : Nat) (a0 : List Int) : Option Int :=
 (loopF (D_impl_total_s0 fu a0) fu (0, 0)).bind fun x140 =>
 some x140
def D_impl_breaks_s1 (fu : Nat) (a0 : Int) (a1 : List (List Int)) (x662 : Int) : ((List Int) × Int) → Option (Lo ((List Int) × Int) (List Int)) := fun (xs1082, x1083) =>
 bif decide (x1083 < (((rw_ a1 x662.toNat).length : Nat) : Int)) then
 (chk (inR x1083 ((rw_ a1 x662.toNat).length)) <|
 (bif decide (0 ≤ rd (rw_ a1 x662.toNat) x1083.toNat) then
 (chk (in64 (x662 - 1)) <|
 chk (inR (x662 - 1) a1.length) <|
 chk (inR x1083 ((rw_ a1 ((x662 - 1).toNat)).length)) <|
 some (decide (rd (rw_ a1 x662.toNat) x1083.toNat = rd (rw_ a1 ((x662 - 1).toNat)) x1083.toNat)))
 else
 (some false)).bind fun b1174 =>
 bif b1174 then
 (chk (inR x1083 a0.toNat) <|
 chk (in64 (rd xs1082 x1083.toNat + 1)) <|
 chk (inR x1083 a0.toNat) <|
 chk (in64 (x1083 + 1)) <|
 some (.go ((xs1082.set x1083.toNat (rd xs1082 x1083.toNat + 1)), x1083 + 1)))
 else
 (chk (in64 (x1083 + 1)) <|
 some (.go (xs1082, x1083 + 1))))
 else
 (some (.out xs1082))
def D_impl_breaks_s0 (fu : Nat) (a0 : Int) (a1 : List (List Int)) : ((List Int) × Int) → Option (Lo ((List Int) × Int) (List Int)) := fun (xs661, x662) =>
 bif decide (x662 < ((a1.length : Nat) : Int)) then
 (chk (inR x662 a1.length) <|
 (loopF (D_impl_breaks_s1 fu a0 a1 x662) fu (xs661, 0)).bind fun xs1144 =>
 chk (in64 (x662 + 1)) <|
 some (.go (xs1144, x662 + 1)))
 else
 (some (.out xs661))
def D_impl_breaks (fu : Nat) (a0 : Int) (a1 : List (List Int)) : Option (List Int) :=
 chk (0 ≤ a0 ∧ a0 ≤ 4294967296) <|
 (loopF (D_impl_breaks_s0 fu a0 a1) fu ((List.replicate a0.toNat 0), 1)).bind fun xs939 =>
 some xs939
def D_impl_always (fu : Nat) : Option Bool :=
 some true
def D_impl_FewestBreaks_s1 (fu : Nat) (x519 : Int) (rs742 : List (List Int)) : ((List (List Int)) × Int) → Option (Lo ((List (List Int)) × Int) (List (List Int))) := fun (rs830, x832) =>
 bif decide (x832 < ((rs742.length : Nat) : Int)) then
 (chk (inR x832 rs742.length) <|
 chk (inR 0 ((rw_ rs742 x832.toNat).length)) <|
 chk (inR 1 ((rw_ rs742 x832.toNat).length)) <|
 chk (rs830.length + 1 ≤ 4294967296) <|
 chk (in64 (x832 + 1)) <|
 some (.go ((rs830 ++ [[x519, rd (rw_ rs742 x832.toNat) 0, rd (rw_ rs742 x832.toNat) 1]]), x832 + 1)))
 else
 (some (.out rs830))
def D_impl_FewestBreaks_s0 (fu : Nat) (a0_0 : Int) (a0_1 : List (List Int)) : ((List (List Int)) × Int) → Option (Lo ((List (List Int)) × Int) (List (List Int))) := fun (rs518, x519) =>
 bif decide (x519 < ((a0_1.length : Nat) : Int)) then
 (chk (inR x519 a0_1.length) <|
 (D_impl_Round_pairs fu (rw_ a0_1 x519.toNat) a0_0).bind fun rs742 =>
 (loopF (D_impl_FewestBreaks_s1 fu x519 rs742) fu (rs518, 0)).bind fun rs867 =>
 chk (in64 (x519 + 1)) <|
 some (.go (rs867, x519 + 1)))
 else
 (some (.out rs518))
def D_impl_FewestBreaks_s3 (fu : Nat) (rs719 : List (List Int)) (rs936 : List (List Int)) (x1422 : Int) : ((List (List Int)) × Int) → Option (Lo ((List (List Int)) × Int) (List (List Int))) := fun (rs1753, x1755) =>
 bif decide (x1755 < ((rs719.length : Nat) : Int)) then
 (chk (inR x1755 rs719.length) <|
 chk (0 ≤ x1755) <|
 chk (inR (rd (rw_ rs719 x1755.toNat) 0) rs936.length) <|
 chk (inR (rd (rw_ rs719 x1755.toNat) 0) rs936.length) <|
 chk (in64 (1 - (iand .i64 (ishr .i64 x1422 x1755) 1))) <|
 chk (inR (rd (rw_ rs719 x1755.toNat) 1) ((rw_ rs1753 ((rd (rw_ rs719 x1755.toNat) 0).toNat)).length)) <|
 chk (inR (rd (rw_ rs719 x1755.toNat) 2) ((rw_ rs1753 ((rd (rw_ rs719 x1755.toNat) 0).toNat)).length)) <|
 chk (in64 (x1755 + 1)) <|
 some (.go (((rs1753.set ((rd (rw_ rs719 x1755.toNat) 0).toNat) ((rw_ rs1753 ((rd (rw_ rs719 x1755.toNat) 0).toNat)).set ((rd (rw_ rs719 x1755.toNat) 1).toNat) (iand .i64 (ishr .i64 x1422 x1755) 1))).set ((rd (rw_ rs719 x1755.toNat) 0).toNat) (((rw_ rs1753 ((rd (rw_ rs719 x1755.toNat) 0).toNat)).set ((rd (rw_ rs719 x1755.toNat) 1).toNat) (iand .i64 (ishr .i64 x1422 x1755) 1)).set ((rd (rw_ rs719 x1755.toNat) 2).toNat) (1 - (iand .i64 (ishr .i64 x1422 x1755) 1)))), x1755 + 1)))
 else
 (some (.out rs1753))
def D_impl_FewestBreaks_s2 (fu : Nat) (a0_0 : Int) (rs719 : List (List Int)) (rs936 : List (List Int)) : ((List (List Int)) × Int × Int) → Option (Lo ((List (List Int)) × Int × Int) Int) := fun (rs1419, x1421, x1422) =>
 bif decide (x1422 < ishl .i64 1 ((rs719.length : Nat) : Int)) then
 ((loopF (D_impl_FewestBreaks_s3 fu rs719 rs936 x1422) fu (rs1419, 0)).bind fun rs1797 =>
 (D_impl_breaks fu a0_0 rs1797).bind fun xs1861 =>
 (D_impl_total fu xs1861).bind fun x1872 =>
 bif (decide (x1421 < 0)) || (decide (x1872 < x1421)) then
 (chk (in64 (x1422 + 1)) <|
 some (.go (rs1797, x1872, x1422 + 1)))
 else
 (chk (in64 (x1422 + 1)) <|
 some (.go (rs1797, x1421, x1422 + 1))))
 else
 (some (.out x1421))
def D_impl_FewestBreaks (fu : Nat) (a0_0 : Int) (a0_1 : List (List Int)) : Option (Int × Int) :=
 (D_impl_scheduleCode fu a0_0 a0_1 (fun _ => D_impl_always fu )).bind fun x104 =>
 bif !decide (x104 = 0) then
 (some (0, x104))
 else
 ((loopF (D_impl_FewestBreaks_s0 fu a0_0 a0_1) fu ([], 0)).bind fun rs719 =>
 bif decide (15 < ((rs719.length : Nat) : Int)) then
 (some (0, 3))
 else
 ((D_impl_Schedule_firstVenues fu a0_0 a0_1).bind fun rs936 =>
 chk (0 ≤ ((rs719.length : Nat) : Int)) <|
 (loopF (D_impl_FewestBreaks_s2 fu a0_0 rs719 rs936) fu (rs936, (-1), 0)).bind fun x1650 =>
 some (x1650, 0)))
end Go.Proofs.Ytdafmafigcljkaa
