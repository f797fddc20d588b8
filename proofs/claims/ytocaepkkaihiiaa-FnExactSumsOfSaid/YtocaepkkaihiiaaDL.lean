/-
  What functions of the program compute, printed by a program. No condition.
-/
import Derived.Test.YtocaepkkaihiiaaDA
namespace Go.Proofs.Ytocaepkkaihiiaa
open Go Am
set_option linter.unusedVariables false
def D_laws_toRound_s0 (fu : Nat) (a0 : List Int) : ((List Int) × Int) → Option (Lo ((List Int) × Int) (List Int)) := fun (xs147, x148) =>
 bif decide (x148 < 14) then
 (chk (inR x148 14) <|
 chk (inR x148 14) <|
 chk (in64 (x148 + 1)) <|
 some (.go ((xs147.set x148.toNat (rd a0 x148.toNat)), x148 + 1)))
 else
 (some (.out xs147))
def D_laws_toRound (fu : Nat) (a0 : List Int) : Option (List Int) :=
 (loopF (D_laws_toRound_s0 fu a0) fu ((List.replicate 14 0), 0)).bind fun xs165 =>
 some xs165
def D_laws_toRoundS_s0 (fu : Nat) (a0 : List (List Int)) : ((List (List Int)) × Int) → Option (Lo ((List (List Int)) × Int) (List (List Int))) := fun (rs151, x152) =>
 bif decide (x152 < ((a0.length : Nat) : Int)) then
 (chk (inR x152 a0.length) <|
 (D_laws_toRound fu (rw_ a0 x152.toNat)).bind fun xs190 =>
 chk (inR x152 (((a0.length : Nat) : Int).toNat)) <|
 chk (in64 (x152 + 1)) <|
 some (.go ((rs151.set x152.toNat xs190), x152 + 1)))
 else
 (some (.out rs151))
def D_laws_toRoundS (fu : Nat) (a0 : List (List Int)) : Option (List (List Int)) :=
 chk (0 ≤ ((a0.length : Nat) : Int) ∧ ((a0.length : Nat) : Int) ≤ 4294967296) <|
 (loopF (D_laws_toRoundS_s0 fu a0) fu ((List.replicate ((a0.length : Nat) : Int).toNat (List.replicate 14 0)), 0)).bind fun rs174 =>
 some rs174
def D_laws_toSchedule (fu : Nat) (a0_0 : Int) (a0_1 : List (List Int)) : Option (Int × (List (List Int))) :=
 (D_laws_toRoundS fu a0_1).bind fun rs114 =>
 some (a0_0, rs114)
def D_laws_szRoundS (fu : Nat) (a0 : List (List Int)) (a1 : Int) : Option Int :=
 chk (in64 (a1 - ((a0.length : Nat) : Int))) <|
 bif decide (a1 - ((a0.length : Nat) : Int) < 0) then
 (some (-1))
 else
 (some (a1 - ((a0.length : Nat) : Int)))
def D_laws_szSchedule (fu : Nat) (a0_0 : Int) (a0_1 : List (List Int)) (a1 : Int) : Option Int :=
 (D_laws_szRoundS fu a0_1 a1).bind fun x104 =>
 bif decide (x104 < 0) then
 (some (-1))
 else
 (some x104)
def D_laws_eqRound_s0 (fu : Nat) (a0 : List Int) (a1 : List Int) : Int → Option (Lo Int (Unit ⊕ Bool)) := fun x141 =>
 bif decide (x141 < 14) then
 (chk (inR x141 14) <|
 chk (inR x141 14) <|
 bif !decide (rd a0 x141.toNat = rd a1 x141.toNat) then
 (some (.out (.inr false)))
 else
 (chk (in64 (x141 + 1)) <|
 some (.go (x141 + 1))))
 else
 (some (.out (.inl ())))
def D_laws_eqRound (fu : Nat) (a0 : List Int) (a1 : List Int) : Option Bool :=
 (loopF (D_laws_eqRound_s0 fu a0 a1) fu 0).bind fun
 | .inl _ => (some true)
 | .inr v189 => some v189
def D_laws_eqRoundS_s0 (fu : Nat) (a0 : List (List Int)) (a1 : List (List Int)) : Int → Option (Lo Int (Unit ⊕ Bool)) := fun x142 =>
 bif decide (x142 < ((a0.length : Nat) : Int)) then
 (chk (inR x142 a0.length) <|
 chk (inR x142 a1.length) <|
 (D_laws_eqRound fu (rw_ a0 x142.toNat) (rw_ a1 x142.toNat)).bind fun b178 =>
 bif !b178 then
 (some (.out (.inr false)))
 else
 (chk (in64 (x142 + 1)) <|
 some (.go (x142 + 1))))
 else
 (some (.out (.inl ())))
def D_laws_eqRoundS (fu : Nat) (a0 : List (List Int)) (a1 : List (List Int)) : Option Bool :=
 bif !decide (((a0.length : Nat) : Int) = ((a1.length : Nat) : Int)) then
 (some false)
 else
 ((loopF (D_laws_eqRoundS_s0 fu a0 a1) fu 0).bind fun
 | .inl _ => (some true)
 | .inr v193 => some v193)
def D_laws_eqSchedule (fu : Nat) (a0_0 : Int) (a0_1 : List (List Int)) (a1_0 : Int) (a1_1 : List (List Int)) : Option Bool :=
 bif !decide (a0_0 = a1_0) then
 (some false)
 else
 ((D_laws_eqRoundS fu a0_1 a1_1).bind fun b111 =>
 bif !b111 then
 (some false)
 else
 (some true))
def D_laws_markRoundS_s1 (fu : Nat) (a0 : List (List Int)) (x300 : Int) : ((List (List Int)) × Int × Int) → Option (Lo ((List (List Int)) × Int × Int) ((List (List Int)) × Int)) := fun (rs449, x450, x451) =>
 bif decide (x451 < 14) then
 (chk (inR x300 a0.length) <|
 chk (inR x451 14) <|
 chk (in64 (x450 + 1)) <|
 chk (in64 (x451 + 1)) <|
 some (.go ((rs449.set x300.toNat ((rw_ rs449 x300.toNat).set x451.toNat x450)), x450 + 1, x451 + 1)))
 else
 (some (.out (rs449, x450)))
def D_laws_markRoundS_s0 (fu : Nat) (a0 : List (List Int)) : ((List (List Int)) × Int × Int) → Option (Lo ((List (List Int)) × Int × Int) ((List (List Int)) × Int)) := fun (rs298, x299, x300) =>
 bif decide (x300 < ((a0.length : Nat) : Int)) then
 ((loopF (D_laws_markRoundS_s1 fu a0 x300) fu (rs298, x299, 0)).bind fun (rs469, x470) =>
 chk (in64 (x300 + 1)) <|
 some (.go (rs469, x470, x300 + 1)))
 else
 (some (.out (rs298, x299)))
def D_laws_markRoundS (fu : Nat) (a0 : List (List Int)) (a1 : Int) : Option (Int × (List (List Int))) :=
 (loopF (D_laws_markRoundS_s0 fu a0) fu (a0, a1, 0)).bind fun (rs398, x399) =>
 some (x399, rs398)
def D_laws_markSchedule (fu : Nat) (a0_0 : Int) (a0_1 : List (List Int)) (a1 : Int) : Option (Int × (List (List Int))) :=
 (D_laws_markRoundS fu a0_1 a1).bind fun (x105, rs106) =>
 some (x105, rs106)
def D_laws_heldRoundS_s1 (fu : Nat) (a0 : List (List Int)) (x287 : Int) : (Int × Int) → Option (Lo (Int × Int) (Int ⊕ Int)) := fun (x429, x430) =>
 bif decide (x430 < 14) then
 (chk (inR x287 a0.length) <|
 chk (inR x430 14) <|
 bif !decide (rd (rw_ a0 x287.toNat) x430.toNat = x429) then
 (some (.out (.inr (-1))))
 else
 (chk (in64 (x429 + 1)) <|
 chk (in64 (x430 + 1)) <|
 some (.go (x429 + 1, x430 + 1))))
 else
 (some (.out (.inl x429)))
def D_laws_heldRoundS_s0 (fu : Nat) (a0 : List (List Int)) : (Int × Int) → Option (Lo (Int × Int) (Int ⊕ Int)) := fun (x286, x287) =>
 bif decide (x287 < ((a0.length : Nat) : Int)) then
 ((loopF (D_laws_heldRoundS_s1 fu a0 x287) fu (x286, 0)).bind fun
 | .inl x449 => (chk (in64 (x287 + 1)) <|
 some (.go (x449, x287 + 1)))
 | .inr v483 => some (.out (.inr v483)))
 else
 (some (.out (.inl x286)))
def D_laws_heldRoundS (fu : Nat) (a0 : List (List Int)) (a1 : Int) : Option Int :=
 (loopF (D_laws_heldRoundS_s0 fu a0) fu (a1, 0)).bind fun
 | .inl x380 => (some x380)
 | .inr v488 => some v488
def D_laws_heldSchedule (fu : Nat) (a0_0 : Int) (a0_1 : List (List Int)) (a1 : Int) : Option Int :=
 (D_laws_heldRoundS fu a0_1 a1).bind fun x104 =>
 bif decide (x104 < 0) then
 (some (-1))
 else
 (some x104)
end Go.Proofs.Ytocaepkkaihiiaa
