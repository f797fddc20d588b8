/-
  What functions of the program compute, printed by a program. No condition.
-/
import Derived.Test.YtpaaoafgahbokaaDO
namespace Go.Proofs.Ytpaaoafgahbokaa
open Go Am
set_option linter.unusedVariables false
def D_spec_l01Teams_s0 (fu : Nat) (a0_0 : Int) (a1 : List Int) : Int → Option (Lo Int (Unit ⊕ Int)) := fun x153 =>
 bif decide (x153 < ((a1.length : Nat) : Int)) then
 (chk (inR x153 a1.length) <|
 chk (in64 (a0_0 - 1)) <|
 (D_spec_l01In fu (rd a1 x153.toNat) 0 (a0_0 - 1)).bind fun b190 =>
 bif !b190 then
 (some (.out (.inr 2)))
 else
 (chk (in64 (x153 + 1)) <|
 some (.go (x153 + 1))))
 else
 (some (.out (.inl ())))
def D_spec_l01Teams (fu : Nat) (a0_0 : Int) (a0_1 : List (List Int)) (a1 : List Int) : Option Int :=
 (D_spec_l01Is fu a0_0 a0_1).bind fun b104 =>
 bif !b104 then
 (some 1)
 else
 ((loopF (D_spec_l01Teams_s0 fu a0_0 a1) fu 0).bind fun
 | .inl _ => (some 0)
 | .inr v207 => some v207)
def D_spec_l05Team (fu : Nat) (a0_0 : Int) (a0_1 : List (List Int)) (a1 : List (List Int)) (a2 : List Int) : Option Int :=
 (D_spec_l05Form fu a0_0 a0_1 a1).bind fun x104 =>
 (bif decide (x104 = 0) then
 ((D_spec_l01Teams fu a0_0 a0_1 a2).bind fun x122 =>
 some x122)
 else
 (some x104)).bind fun x116 =>
 (bif decide (x116 = 0) then
 ((D_spec_l05Are fu a0_0 a0_1 a1).bind fun b145 =>
 some (!b145))
 else
 (some false)).bind fun b139 =>
 bif b139 then
 (some 5)
 else
 (some x116)
def D_spec_AreOpposite_s0 (fu : Nat) (a1 : List (List Int)) (a2 : Int) (a3 : Int) : Int → Option (Lo Int (Unit ⊕ (Bool × Int))) := fun x387 =>
 bif decide (x387 < ((a1.length : Nat) : Int)) then
 (chk (inR x387 a1.length) <|
 chk (inR a2 ((rw_ a1 x387.toNat).length)) <|
 chk (inR x387 a1.length) <|
 chk (inR a3 ((rw_ a1 x387.toNat).length)) <|
 (bif decide (rd (rw_ a1 x387.toNat) a2.toNat < 0) then
 (bif decide (0 ≤ rd (rw_ a1 x387.toNat) a3.toNat) then
 (some true)
 else
 (bif decide (rd (rw_ a1 x387.toNat) a3.toNat < 0) then
 (bif decide (0 ≤ rd (rw_ a1 x387.toNat) a2.toNat) then
 (some true)
 else
 (bif decide (0 ≤ rd (rw_ a1 x387.toNat) a2.toNat) then
 (chk (in64 (rd (rw_ a1 x387.toNat) a2.toNat + (rd (rw_ a1 x387.toNat) a3.toNat))) <|
 some (!decide (rd (rw_ a1 x387.toNat) a2.toNat + (rd (rw_ a1 x387.toNat) a3.toNat) = 1)))
 else
 (some false)))
 else
 (bif decide (0 ≤ rd (rw_ a1 x387.toNat) a2.toNat) then
 (chk (in64 (rd (rw_ a1 x387.toNat) a2.toNat + (rd (rw_ a1 x387.toNat) a3.toNat))) <|
 some (!decide (rd (rw_ a1 x387.toNat) a2.toNat + (rd (rw_ a1 x387.toNat) a3.toNat) = 1)))
 else
 (some false))))
 else
 (bif decide (rd (rw_ a1 x387.toNat) a3.toNat < 0) then
 (bif decide (0 ≤ rd (rw_ a1 x387.toNat) a2.toNat) then
 (some true)
 else
 (bif decide (0 ≤ rd (rw_ a1 x387.toNat) a2.toNat) then
 (chk (in64 (rd (rw_ a1 x387.toNat) a2.toNat + (rd (rw_ a1 x387.toNat) a3.toNat))) <|
 some (!decide (rd (rw_ a1 x387.toNat) a2.toNat + (rd (rw_ a1 x387.toNat) a3.toNat) = 1)))
 else
 (some false)))
 else
 (bif decide (0 ≤ rd (rw_ a1 x387.toNat) a2.toNat) then
 (chk (in64 (rd (rw_ a1 x387.toNat) a2.toNat + (rd (rw_ a1 x387.toNat) a3.toNat))) <|
 some (!decide (rd (rw_ a1 x387.toNat) a2.toNat + (rd (rw_ a1 x387.toNat) a3.toNat) = 1)))
 else
 (some false)))).bind fun b565 =>
 bif b565 then
 (some (.out (.inr (false, 0))))
 else
 (chk (in64 (x387 + 1)) <|
 some (.go (x387 + 1))))
 else
 (some (.out (.inl ())))
def D_spec_AreOpposite (fu : Nat) (a0_0 : Int) (a0_1 : List (List Int)) (a1 : List (List Int)) (a2 : Int) (a3 : Int) : Option (Bool × Int) :=
 (D_spec_l05Form fu a0_0 a0_1 a1).bind fun x104 =>
 (bif (decide (x104 = 0)) && (decide (a2 = a3)) then
 (some 2)
 else
 (some x104)).bind fun x117 =>
 (bif decide (x117 = 0) then
 ((D_spec_l05Team fu a0_0 a0_1 a1 [a2, a3]).bind fun x150 =>
 some x150)
 else
 (some x117)).bind fun x140 =>
 bif !decide (x140 = 0) then
 (some (false, x140))
 else
 ((loopF (D_spec_AreOpposite_s0 fu a1 a2 a3) fu 0).bind fun
 | .inl _ => (some (true, 0))
 | .inr v623 => some v623)
def D_impl_venuesCode_1 (fu : Nat) (b0_0 : Int) (b0_1 : List (List Int)) (b1_0 : List (List Int)) (b2_0 : Unit → Option Bool) : Option Bool :=
 ((D_impl_Schedule_haveForm fu b0_0 b0_1 b1_0).bind fun b114 =>
 bif b114 then
 ((b2_0 ()).bind fun b120 =>
 some b120)
 else
 (some false)).bind fun b110 =>
 some b110
def D_impl_venuesCode (fu : Nat) (a0_0 : Int) (a0_1 : List (List Int)) (a1 : List (List Int)) (a2 : Unit → Option Bool) : Option Int :=
 (D_impl_scheduleCode fu a0_0 a0_1 (fun _ => D_impl_venuesCode_1 fu a0_0 a0_1 a1 a2)).bind fun x112 =>
 (bif decide (x112 = 0) then
 ((D_impl_Schedule_areVenues fu a0_0 a0_1 a1).bind fun b129 =>
 some (!b129))
 else
 (some false)).bind fun b123 =>
 bif b123 then
 (some 5)
 else
 (some x112)
def D_impl_Schedule_hasTeam (fu : Nat) (a0_0 : Int) (a0_1 : List (List Int)) (a1 : Int) : Option Bool :=
 chk (in64 (a0_0 - 1)) <|
 (D_impl_between fu a1 0 (a0_0 - 1)).bind fun b106 =>
 some b106
def D_impl_AreOpposite_1 (fu : Nat) (b0_0 : Int) (b0_1 : List (List Int)) (b1_0 : Int) (b2_0 : Int) : Option Bool :=
 ((D_impl_Schedule_hasTeam fu b0_0 b0_1 b1_0).bind fun b118 =>
 bif b118 then
 ((D_impl_Schedule_hasTeam fu b0_0 b0_1 b2_0).bind fun b124 =>
 bif b124 then
 (some (!decide (b1_0 = b2_0)))
 else
 (some false))
 else
 (some false)).bind fun b114 =>
 some b114
def D_impl_AreOpposite_s0 (fu : Nat) (a1 : List (List Int)) (a2 : Int) (a3 : Int) : Int → Option (Lo Int (Unit ⊕ (Bool × Int))) := fun x233 =>
 bif decide (x233 < ((a1.length : Nat) : Int)) then
 (chk (inR x233 a1.length) <|
 chk (inR a2 ((rw_ a1 x233.toNat).length)) <|
 chk (inR a3 ((rw_ a1 x233.toNat).length)) <|
 (chk (in64 (rd (rw_ a1 x233.toNat) a2.toNat + (rd (rw_ a1 x233.toNat) a3.toNat))) <|
 bif !decide (rd (rw_ a1 x233.toNat) a2.toNat + (rd (rw_ a1 x233.toNat) a3.toNat) = 1) then
 (bif decide (0 ≤ rd (rw_ a1 x233.toNat) a2.toNat) then
 (some true)
 else
 (some (decide (0 ≤ rd (rw_ a1 x233.toNat) a3.toNat))))
 else
 (some false)).bind fun b322 =>
 bif b322 then
 (some (.out (.inr (false, 0))))
 else
 (chk (in64 (x233 + 1)) <|
 some (.go (x233 + 1))))
 else
 (some (.out (.inl ())))
def D_impl_AreOpposite (fu : Nat) (a0_0 : Int) (a0_1 : List (List Int)) (a1 : List (List Int)) (a2 : Int) (a3 : Int) : Option (Bool × Int) :=
 (D_impl_venuesCode fu a0_0 a0_1 a1 (fun _ => D_impl_AreOpposite_1 fu a0_0 a0_1 a2 a3)).bind fun x112 =>
 bif !decide (x112 = 0) then
 (some (false, x112))
 else
 ((loopF (D_impl_AreOpposite_s0 fu a1 a2 a3) fu 0).bind fun
 | .inl _ => (some (true, 0))
 | .inr v359 => some v359)
end Go.Proofs.Ytpaaoafgahbokaa
