/-
  What functions of the program compute, printed by a program. No condition.
-/
import Derived.Test.YtpaaoafgahbokaaDC
import Derived.Test.YtpaaoafgahbokaaDE
namespace Go.Proofs.Ytpaaoafgahbokaa
open Go Am
set_option linter.unusedVariables false
def D_spec_l05First_s1 (fu : Nat) (a0_0 : Int) (a0_1 : List (List Int)) (x749 : Int) : ((List Int) × Int) → Option (Lo ((List Int) × Int) (List Int)) := fun (xs1216, x1217) =>
 bif decide (x1217 < a0_0) then
 (chk (inR x749 a0_1.length) <|
 chk (inR x1217 14) <|
 bif decide (x1217 = rd (rw_ a0_1 x749.toNat) x1217.toNat) then
 (chk (xs1216.length + 1 ≤ 4294967296) <|
 chk (in64 (x1217 + 1)) <|
 some (.go ((xs1216 ++ [(-1)]), x1217 + 1)))
 else
 (bif decide (x1217 < rd (rw_ a0_1 x749.toNat) x1217.toNat) then
 (chk (xs1216.length + 1 ≤ 4294967296) <|
 chk (in64 (x1217 + 1)) <|
 some (.go ((xs1216 ++ [1]), x1217 + 1)))
 else
 (chk (xs1216.length + 1 ≤ 4294967296) <|
 chk (in64 (x1217 + 1)) <|
 some (.go ((xs1216 ++ [0]), x1217 + 1)))))
 else
 (some (.out xs1216))
def D_spec_l05First_s0 (fu : Nat) (a0_0 : Int) (a0_1 : List (List Int)) : ((List (List Int)) × Int) → Option (Lo ((List (List Int)) × Int) (List (List Int))) := fun (rs747, x749) =>
 bif decide (x749 < ((a0_1.length : Nat) : Int)) then
 ((loopF (D_spec_l05First_s1 fu a0_0 a0_1 x749) fu ([], 0)).bind fun xs1281 =>
 chk (rs747.length + 1 ≤ 4294967296) <|
 chk (in64 (x749 + 1)) <|
 some (.go ((rs747 ++ [xs1281]), x749 + 1)))
 else
 (some (.out rs747))
def D_spec_l05First (fu : Nat) (a0_0 : Int) (a0_1 : List (List Int)) : Option (List (List Int)) :=
 (loopF (D_spec_l05First_s0 fu a0_0 a0_1) fu ([], 0)).bind fun rs1066 =>
 some rs1066
def D_spec_FirstVenues (fu : Nat) (a0_0 : Int) (a0_1 : List (List Int)) : Option ((List (List Int)) × Int) :=
 (D_spec_l01Is fu a0_0 a0_1).bind fun b104 =>
 bif !b104 then
 (some ([], 1))
 else
 ((D_spec_l05First fu a0_0 a0_1).bind fun rs115 =>
 some (rs115, 0))
def D_impl_Schedule_firstVenues_s1 (fu : Nat) (a0_0 : Int) (a0_1 : List (List Int)) (x545 : Int) : ((List Int) × Int) → Option (Lo ((List Int) × Int) (List Int)) := fun (xs861, x862) =>
 bif decide (x862 < a0_0) then
 (chk (inR x862 14) <|
 bif decide (rd (rw_ a0_1 x545.toNat) x862.toNat = x862) then
 (chk (inR x862 a0_0.toNat) <|
 chk (in64 (x862 + 1)) <|
 some (.go ((xs861.set x862.toNat (-1)), x862 + 1)))
 else
 (chk (inR x862 14) <|
 bif decide (x862 < rd (rw_ a0_1 x545.toNat) x862.toNat) then
 (chk (inR x862 a0_0.toNat) <|
 chk (in64 (x862 + 1)) <|
 some (.go ((xs861.set x862.toNat 1), x862 + 1)))
 else
 (chk (in64 (x862 + 1)) <|
 some (.go (xs861, x862 + 1)))))
 else
 (some (.out xs861))
def D_impl_Schedule_firstVenues_s0 (fu : Nat) (a0_0 : Int) (a0_1 : List (List Int)) : ((List (List Int)) × Int) → Option (Lo ((List (List Int)) × Int) (List (List Int))) := fun (rs543, x545) =>
 bif decide (x545 < ((a0_1.length : Nat) : Int)) then
 (chk (inR x545 a0_1.length) <|
 chk (0 ≤ a0_0 ∧ a0_0 ≤ 4294967296) <|
 (loopF (D_impl_Schedule_firstVenues_s1 fu a0_0 a0_1 x545) fu ((List.replicate a0_0.toNat 0), 0)).bind fun xs896 =>
 chk (rs543.length + 1 ≤ 4294967296) <|
 chk (in64 (x545 + 1)) <|
 some (.go ((rs543 ++ [xs896]), x545 + 1)))
 else
 (some (.out rs543))
def D_impl_Schedule_firstVenues (fu : Nat) (a0_0 : Int) (a0_1 : List (List Int)) : Option (List (List Int)) :=
 (loopF (D_impl_Schedule_firstVenues_s0 fu a0_0 a0_1) fu ([], 0)).bind fun rs760 =>
 some rs760
def D_impl_FirstVenues (fu : Nat) (a0_0 : Int) (a0_1 : List (List Int)) : Option ((List (List Int)) × Int) :=
 (D_impl_scheduleCode fu a0_0 a0_1 (fun _ => D_impl_always fu )).bind fun x104 =>
 bif !decide (x104 = 0) then
 (some ([], x104))
 else
 ((D_impl_Schedule_firstVenues fu a0_0 a0_1).bind fun rs115 =>
 some (rs115, 0))
def D_spec_l05Form_s1 (fu : Nat) (a1 : List (List Int)) (x428 : Int) : Int → Option (Lo Int (Unit ⊕ Int)) := fun x671 =>
 chk (inR x428 a1.length) <|
 bif decide (x671 < (((rw_ a1 x428.toNat).length : Nat) : Int)) then
 (chk (inR x428 a1.length) <|
 chk (inR x671 ((rw_ a1 x428.toNat).length)) <|
 (D_spec_l01In fu (rd (rw_ a1 x428.toNat) x671.toNat) (-1) 1).bind fun b730 =>
 bif !b730 then
 (some (.out (.inr 2)))
 else
 (chk (in64 (x671 + 1)) <|
 some (.go (x671 + 1))))
 else
 (some (.out (.inl ())))
def D_spec_l05Form_s0 (fu : Nat) (a0_0 : Int) (a1 : List (List Int)) : Int → Option (Lo Int (Unit ⊕ Int)) := fun x428 =>
 bif decide (x428 < ((a1.length : Nat) : Int)) then
 (chk (inR x428 a1.length) <|
 bif !decide ((((rw_ a1 x428.toNat).length : Nat) : Int) = a0_0) then
 (some (.out (.inr 2)))
 else
 ((loopF (D_spec_l05Form_s1 fu a1 x428) fu 0).bind fun
 | .inl _ => (chk (in64 (x428 + 1)) <|
 some (.go (x428 + 1)))
 | .inr v752 => some (.out (.inr v752))))
 else
 (some (.out (.inl ())))
def D_spec_l05Form (fu : Nat) (a0_0 : Int) (a0_1 : List (List Int)) (a1 : List (List Int)) : Option Int :=
 (D_spec_l01Is fu a0_0 a0_1).bind fun b104 =>
 bif !b104 then
 (some 1)
 else
 (bif !decide (((a1.length : Nat) : Int) = ((a0_1.length : Nat) : Int)) then
 (some 2)
 else
 ((loopF (D_spec_l05Form_s0 fu a0_0 a1) fu 0).bind fun
 | .inl _ => (some 0)
 | .inr v758 => some v758))
def D_spec_l05Are_s1 (fu : Nat) (a0_0 : Int) (a0_1 : List (List Int)) (a1 : List (List Int)) (x1652 : Int) : Int → Option (Lo Int (Unit ⊕ Bool)) := fun x2814 =>
 bif decide (x2814 < a0_0) then
 (chk (inR x1652 a0_1.length) <|
 chk (inR x2814 14) <|
 (bif decide (x2814 = rd (rw_ a0_1 x1652.toNat) x2814.toNat) then
 (chk (inR x1652 a1.length) <|
 chk (inR x2814 ((rw_ a1 x1652.toNat).length)) <|
 bif !decide (rd (rw_ a1 x1652.toNat) x2814.toNat = (-1)) then
 (some true)
 else
 (bif !decide (x2814 = rd (rw_ a0_1 x1652.toNat) x2814.toNat) then
 (chk (inR x1652 a1.length) <|
 chk (inR x2814 ((rw_ a1 x1652.toNat).length)) <|
 bif decide (rd (rw_ a1 x1652.toNat) x2814.toNat < 0) then
 (some true)
 else
 (chk (inR x1652 a1.length) <|
 chk (inR x2814 ((rw_ a1 x1652.toNat).length)) <|
 chk (inR x1652 a1.length) <|
 chk (inR (rd (rw_ a0_1 x1652.toNat) x2814.toNat) ((rw_ a1 x1652.toNat).length)) <|
 chk (in64 (rd (rw_ a1 x1652.toNat) x2814.toNat + (rd (rw_ a1 x1652.toNat) ((rd (rw_ a0_1 x1652.toNat) x2814.toNat).toNat)))) <|
 some (!decide (rd (rw_ a1 x1652.toNat) x2814.toNat + (rd (rw_ a1 x1652.toNat) ((rd (rw_ a0_1 x1652.toNat) x2814.toNat).toNat)) = 1))))
 else
 (some false)))
 else
 (bif !decide (x2814 = rd (rw_ a0_1 x1652.toNat) x2814.toNat) then
 (chk (inR x1652 a1.length) <|
 chk (inR x2814 ((rw_ a1 x1652.toNat).length)) <|
 bif decide (rd (rw_ a1 x1652.toNat) x2814.toNat < 0) then
 (some true)
 else
 (chk (inR x1652 a1.length) <|
 chk (inR x2814 ((rw_ a1 x1652.toNat).length)) <|
 chk (inR x1652 a1.length) <|
 chk (inR (rd (rw_ a0_1 x1652.toNat) x2814.toNat) ((rw_ a1 x1652.toNat).length)) <|
 chk (in64 (rd (rw_ a1 x1652.toNat) x2814.toNat + (rd (rw_ a1 x1652.toNat) ((rd (rw_ a0_1 x1652.toNat) x2814.toNat).toNat)))) <|
 some (!decide (rd (rw_ a1 x1652.toNat) x2814.toNat + (rd (rw_ a1 x1652.toNat) ((rd (rw_ a0_1 x1652.toNat) x2814.toNat).toNat)) = 1))))
 else
 (some false))).bind fun b3099 =>
 bif b3099 then
 (some (.out (.inr false)))
 else
 (chk (in64 (x2814 + 1)) <|
 some (.go (x2814 + 1))))
 else
 (some (.out (.inl ())))
def D_spec_l05Are_s0 (fu : Nat) (a0_0 : Int) (a0_1 : List (List Int)) (a1 : List (List Int)) : Int → Option (Lo Int (Unit ⊕ Bool)) := fun x1652 =>
 bif decide (x1652 < ((a1.length : Nat) : Int)) then
 ((loopF (D_spec_l05Are_s1 fu a0_0 a0_1 a1 x1652) fu 0).bind fun
 | .inl _ => (chk (in64 (x1652 + 1)) <|
 some (.go (x1652 + 1)))
 | .inr v3209 => some (.out (.inr v3209)))
 else
 (some (.out (.inl ())))
def D_spec_l05Are (fu : Nat) (a0_0 : Int) (a0_1 : List (List Int)) (a1 : List (List Int)) : Option Bool :=
 (loopF (D_spec_l05Are_s0 fu a0_0 a0_1 a1) fu 0).bind fun
 | .inl _ => (some true)
 | .inr v3215 => some v3215
def D_spec_AreVenues (fu : Nat) (a0_0 : Int) (a0_1 : List (List Int)) (a1 : List (List Int)) : Option (Bool × Int) :=
 (D_spec_l05Form fu a0_0 a0_1 a1).bind fun x104 =>
 bif !decide (x104 = 0) then
 (some (false, x104))
 else
 ((D_spec_l05Are fu a0_0 a0_1 a1).bind fun b112 =>
 some (b112, 0))
def D_impl_Schedule_haveForm_1_1 (fu : Nat) (a0 : Int) : Option Bool :=
 (D_impl_between fu a0 (-1) 1).bind fun b100 =>
 some (!b100)
def D_impl_Schedule_haveForm_1 (fu : Nat) (a0 : List Int) (b0_0 : Int) (b0_1 : List (List Int)) : Option Bool :=
 ((D_impl_size_int64 fu a0).bind fun x115 =>
 bif !decide (x115 = b0_0) then
 (some true)
 else
 ((D_slices_ContainsFunc_Sint64_int64 fu a0 (fun x0' => D_impl_Schedule_haveForm_1_1 fu x0')).bind fun b122 =>
 some b122)).bind fun b111 =>
 some b111
def D_impl_Schedule_haveForm (fu : Nat) (a0_0 : Int) (a0_1 : List (List Int)) (a1 : List (List Int)) : Option Bool :=
 (bif decide (((a1.length : Nat) : Int) = ((a0_1.length : Nat) : Int)) then
 ((D_slices_ContainsFunc_SSint64_Sint64 fu a1 (fun x0' => D_impl_Schedule_haveForm_1 fu x0' a0_0 a0_1)).bind fun b117 =>
 some (!b117))
 else
 (some false)).bind fun b111 =>
 some b111
def D_impl_AreVenues_1 (fu : Nat) (b0_0 : Int) (b0_1 : List (List Int)) (b1_0 : List (List Int)) : Option Bool :=
 (D_impl_Schedule_haveForm fu b0_0 b0_1 b1_0).bind fun b100 =>
 some b100
def D_impl_Schedule_areVenues_s1 (fu : Nat) (a0_0 : Int) (a0_1 : List (List Int)) (a1 : List (List Int)) (x720 : Int) : Int → Option (Lo Int (Unit ⊕ Bool)) := fun x1183 =>
 bif decide (x1183 < a0_0) then
 (chk (inR x720 a1.length) <|
 chk (inR x1183 ((rw_ a1 x720.toNat).length)) <|
 chk (inR x720 a1.length) <|
 chk (inR x1183 14) <|
 chk (inR (rd (rw_ a0_1 x720.toNat) x1183.toNat) ((rw_ a1 x720.toNat).length)) <|
 (chk (inR x1183 14) <|
 bif !((decide (rd (rw_ a0_1 x720.toNat) x1183.toNat = x1183)) == (decide (rd (rw_ a1 x720.toNat) x1183.toNat < 0))) then
 (some true)
 else
 (chk (inR x1183 14) <|
 bif !decide (rd (rw_ a0_1 x720.toNat) x1183.toNat = x1183) then
 (chk (in64 (rd (rw_ a1 x720.toNat) x1183.toNat + (rd (rw_ a1 x720.toNat) ((rd (rw_ a0_1 x720.toNat) x1183.toNat).toNat)))) <|
 some (!decide (rd (rw_ a1 x720.toNat) x1183.toNat + (rd (rw_ a1 x720.toNat) ((rd (rw_ a0_1 x720.toNat) x1183.toNat).toNat)) = 1)))
 else
 (some false))).bind fun b1300 =>
 bif b1300 then
 (some (.out (.inr false)))
 else
 (chk (in64 (x1183 + 1)) <|
 some (.go (x1183 + 1))))
 else
 (some (.out (.inl ())))
def D_impl_Schedule_areVenues_s0 (fu : Nat) (a0_0 : Int) (a0_1 : List (List Int)) (a1 : List (List Int)) : Int → Option (Lo Int (Unit ⊕ Bool)) := fun x720 =>
 bif decide (x720 < ((a0_1.length : Nat) : Int)) then
 (chk (inR x720 a0_1.length) <|
 (loopF (D_impl_Schedule_areVenues_s1 fu a0_0 a0_1 a1 x720) fu 0).bind fun
 | .inl _ => (chk (in64 (x720 + 1)) <|
 some (.go (x720 + 1)))
 | .inr v1345 => some (.out (.inr v1345)))
 else
 (some (.out (.inl ())))
def D_impl_Schedule_areVenues (fu : Nat) (a0_0 : Int) (a0_1 : List (List Int)) (a1 : List (List Int)) : Option Bool :=
 (loopF (D_impl_Schedule_areVenues_s0 fu a0_0 a0_1 a1) fu 0).bind fun
 | .inl _ => (some true)
 | .inr v1351 => some v1351
def D_impl_AreVenues (fu : Nat) (a0_0 : Int) (a0_1 : List (List Int)) (a1 : List (List Int)) : Option (Bool × Int) :=
 (D_impl_scheduleCode fu a0_0 a0_1 (fun _ => D_impl_AreVenues_1 fu a0_0 a0_1 a1)).bind fun x108 =>
 bif !decide (x108 = 0) then
 (some (false, x108))
 else
 ((D_impl_Schedule_areVenues fu a0_0 a0_1 a1).bind fun b116 =>
 some (b116, 0))
end Go.Proofs.Ytpaaoafgahbokaa
