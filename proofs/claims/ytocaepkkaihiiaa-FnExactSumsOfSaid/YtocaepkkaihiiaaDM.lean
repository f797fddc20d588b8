/-
  What functions of the program compute, printed by a program. No condition.
-/
import Derived.Test.YtocaepkkaihiiaaDA
namespace Go.Proofs.Ytocaepkkaihiiaa
open Go Am
set_option linter.unusedVariables false
def D_laws_toInt64S_s0 (fu : Nat) (a0 : List Int) : ((List Int) × Int) → Option (Lo ((List Int) × Int) (List Int)) := fun (xs139, x140) =>
 bif decide (x140 < ((a0.length : Nat) : Int)) then
 (chk (inR x140 a0.length) <|
 chk (inR x140 (((a0.length : Nat) : Int).toNat)) <|
 chk (in64 (x140 + 1)) <|
 some (.go ((xs139.set x140.toNat (rd a0 x140.toNat)), x140 + 1)))
 else
 (some (.out xs139))
def D_laws_toInt64S (fu : Nat) (a0 : List Int) : Option (List Int) :=
 chk (0 ≤ ((a0.length : Nat) : Int) ∧ ((a0.length : Nat) : Int) ≤ 4294967296) <|
 (loopF (D_laws_toInt64S_s0 fu a0) fu ((List.replicate ((a0.length : Nat) : Int).toNat 0), 0)).bind fun xs156 =>
 some xs156
def D_laws_toInt64SS_s0 (fu : Nat) (a0 : List (List Int)) : ((List (List Int)) × Int) → Option (Lo ((List (List Int)) × Int) (List (List Int))) := fun (rs178, x180) =>
 bif decide (x180 < ((a0.length : Nat) : Int)) then
 (chk (inR x180 a0.length) <|
 (D_laws_toInt64S fu (rw_ a0 x180.toNat)).bind fun xs237 =>
 chk (inR x180 (((a0.length : Nat) : Int).toNat)) <|
 chk (in64 (x180 + 1)) <|
 some (.go ((rs178.set x180.toNat xs237), x180 + 1)))
 else
 (some (.out rs178))
def D_laws_toInt64SS (fu : Nat) (a0 : List (List Int)) : Option (List (List Int)) :=
 chk (0 ≤ ((a0.length : Nat) : Int) ∧ ((a0.length : Nat) : Int) ≤ 4294967296) <|
 (loopF (D_laws_toInt64SS_s0 fu a0) fu ((List.replicate ((a0.length : Nat) : Int).toNat []), 0)).bind fun rs215 =>
 some rs215
def D_laws_szInt64S (fu : Nat) (a0 : List Int) (a1 : Int) : Option Int :=
 chk (in64 (a1 - ((a0.length : Nat) : Int))) <|
 bif decide (a1 - ((a0.length : Nat) : Int) < 0) then
 (some (-1))
 else
 (some (a1 - ((a0.length : Nat) : Int)))
def D_laws_szInt64SS_s0 (fu : Nat) (a0 : List (List Int)) : (Int × Int) → Option (Lo (Int × Int) (Int ⊕ Int)) := fun (x149, x150) =>
 bif decide (x150 < ((a0.length : Nat) : Int)) then
 (chk (inR x150 a0.length) <|
 (D_laws_szInt64S fu (rw_ a0 x150.toNat) x149).bind fun x191 =>
 bif decide (x191 < 0) then
 (some (.out (.inr (-1))))
 else
 (chk (in64 (x150 + 1)) <|
 some (.go (x191, x150 + 1))))
 else
 (some (.out (.inl x149)))
def D_laws_szInt64SS (fu : Nat) (a0 : List (List Int)) (a1 : Int) : Option Int :=
 chk (in64 (a1 - ((a0.length : Nat) : Int))) <|
 bif decide (a1 - ((a0.length : Nat) : Int) < 0) then
 (some (-1))
 else
 ((loopF (D_laws_szInt64SS_s0 fu a0) fu (a1 - ((a0.length : Nat) : Int), 0)).bind fun
 | .inl x172 => (some x172)
 | .inr v206 => some v206)
def D_laws_eqInt64S_s0 (fu : Nat) (a0 : List Int) (a1 : List Int) : Int → Option (Lo Int (Unit ⊕ Bool)) := fun x134 =>
 bif decide (x134 < ((a0.length : Nat) : Int)) then
 (chk (inR x134 a0.length) <|
 chk (inR x134 a1.length) <|
 bif !decide (rd a0 x134.toNat = rd a1 x134.toNat) then
 (some (.out (.inr false)))
 else
 (chk (in64 (x134 + 1)) <|
 some (.go (x134 + 1))))
 else
 (some (.out (.inl ())))
def D_laws_eqInt64S (fu : Nat) (a0 : List Int) (a1 : List Int) : Option Bool :=
 bif !decide (((a0.length : Nat) : Int) = ((a1.length : Nat) : Int)) then
 (some false)
 else
 ((loopF (D_laws_eqInt64S_s0 fu a0 a1) fu 0).bind fun
 | .inl _ => (some true)
 | .inr v177 => some v177)
def D_laws_eqInt64SS_s0 (fu : Nat) (a0 : List (List Int)) (a1 : List (List Int)) : Int → Option (Lo Int (Unit ⊕ Bool)) := fun x158 =>
 bif decide (x158 < ((a0.length : Nat) : Int)) then
 (chk (inR x158 a0.length) <|
 chk (inR x158 a1.length) <|
 (D_laws_eqInt64S fu (rw_ a0 x158.toNat) (rw_ a1 x158.toNat)).bind fun b210 =>
 bif !b210 then
 (some (.out (.inr false)))
 else
 (chk (in64 (x158 + 1)) <|
 some (.go (x158 + 1))))
 else
 (some (.out (.inl ())))
def D_laws_eqInt64SS (fu : Nat) (a0 : List (List Int)) (a1 : List (List Int)) : Option Bool :=
 bif !decide (((a0.length : Nat) : Int) = ((a1.length : Nat) : Int)) then
 (some false)
 else
 ((loopF (D_laws_eqInt64SS_s0 fu a0 a1) fu 0).bind fun
 | .inl _ => (some true)
 | .inr v225 => some v225)
def D_laws_markInt64S_s0 (fu : Nat) (a0 : List Int) : ((List Int) × Int × Int) → Option (Lo ((List Int) × Int × Int) ((List Int) × Int)) := fun (xs134, x135, x136) =>
 bif decide (x136 < ((a0.length : Nat) : Int)) then
 (chk (inR x136 a0.length) <|
 chk (in64 (x135 + 1)) <|
 chk (in64 (x136 + 1)) <|
 some (.go ((xs134.set x136.toNat x135), x135 + 1, x136 + 1)))
 else
 (some (.out (xs134, x135)))
def D_laws_markInt64S (fu : Nat) (a0 : List Int) (a1 : Int) : Option (Int × (List Int)) :=
 (loopF (D_laws_markInt64S_s0 fu a0) fu (a0, a1, 0)).bind fun (xs152, x153) =>
 some (x153, xs152)
def D_laws_markInt64SS_s0 (fu : Nat) (a0 : List (List Int)) : ((List (List Int)) × Int × Int) → Option (Lo ((List (List Int)) × Int × Int) ((List (List Int)) × Int)) := fun (rs169, x171, x172) =>
 bif decide (x172 < ((a0.length : Nat) : Int)) then
 (chk (inR x172 a0.length) <|
 (D_laws_markInt64S fu (rw_ rs169 x172.toNat) x171).bind fun (x232, xs233) =>
 chk (in64 (x172 + 1)) <|
 some (.go ((rs169.set x172.toNat xs233), x232, x172 + 1)))
 else
 (some (.out (rs169, x171)))
def D_laws_markInt64SS (fu : Nat) (a0 : List (List Int)) (a1 : Int) : Option (Int × (List (List Int))) :=
 (loopF (D_laws_markInt64SS_s0 fu a0) fu (a0, a1, 0)).bind fun (rs205, x207) =>
 some (x207, rs205)
def D_laws_heldInt64S_s0 (fu : Nat) (a0 : List Int) : (Int × Int) → Option (Lo (Int × Int) (Int ⊕ Int)) := fun (x132, x133) =>
 bif decide (x133 < ((a0.length : Nat) : Int)) then
 (chk (inR x133 a0.length) <|
 bif !decide (rd a0 x133.toNat = x132) then
 (some (.out (.inr (-1))))
 else
 (chk (in64 (x132 + 1)) <|
 chk (in64 (x133 + 1)) <|
 some (.go (x132 + 1, x133 + 1))))
 else
 (some (.out (.inl x132)))
def D_laws_heldInt64S (fu : Nat) (a0 : List Int) (a1 : Int) : Option Int :=
 (loopF (D_laws_heldInt64S_s0 fu a0) fu (a1, 0)).bind fun
 | .inl x149 => (some x149)
 | .inr v177 => some v177
def D_laws_heldInt64SS_s0 (fu : Nat) (a0 : List (List Int)) : (Int × Int) → Option (Lo (Int × Int) (Int ⊕ Int)) := fun (x144, x145) =>
 bif decide (x145 < ((a0.length : Nat) : Int)) then
 (chk (inR x145 a0.length) <|
 (D_laws_heldInt64S fu (rw_ a0 x145.toNat) x144).bind fun x186 =>
 bif decide (x186 < 0) then
 (some (.out (.inr (-1))))
 else
 (chk (in64 (x145 + 1)) <|
 some (.go (x186, x145 + 1))))
 else
 (some (.out (.inl x144)))
def D_laws_heldInt64SS (fu : Nat) (a0 : List (List Int)) (a1 : Int) : Option Int :=
 (loopF (D_laws_heldInt64SS_s0 fu a0) fu (a1, 0)).bind fun
 | .inl x167 => (some x167)
 | .inr v201 => some v201
def D_laws_toSquare (fu : Nat) (a0_0 : Int) (a0_1 : List (List Int)) : Option (Int × (List (List Int))) :=
 (D_laws_toInt64SS fu a0_1).bind fun rs114 =>
 some (a0_0, rs114)
def D_laws_szSquare (fu : Nat) (a0_0 : Int) (a0_1 : List (List Int)) (a1 : Int) : Option Int :=
 (D_laws_szInt64SS fu a0_1 a1).bind fun x104 =>
 bif decide (x104 < 0) then
 (some (-1))
 else
 (some x104)
def D_laws_eqSquare (fu : Nat) (a0_0 : Int) (a0_1 : List (List Int)) (a1_0 : Int) (a1_1 : List (List Int)) : Option Bool :=
 bif !decide (a0_0 = a1_0) then
 (some false)
 else
 ((D_laws_eqInt64SS fu a0_1 a1_1).bind fun b111 =>
 bif !b111 then
 (some false)
 else
 (some true))
end Go.Proofs.Ytocaepkkaihiiaa
