
/-
  What functions of the program compute, printed by a program. No condition.
-/
import Derived.Test.YtdafmafigcljkaaGreatK5
namespace Go.Proofs.YtdafmafigcljkaaGreat
open Go Am
set_option linter.unusedVariables false
def D_spec_l01In (fu : Nat) (a0 : Int) (a1 : Int) (a2 : Int) : Option Bool :=
 some ((decide (a1 ≤ a0)) && (decide (a0 ≤ a2)))
def D_impl_between (fu : Nat) (a0 : Int) (a1 : Int) (a2 : Int) : Option Bool :=
 some ((decide (a1 ≤ a0)) && (decide (a0 ≤ a2)))
def D_impl_isModulus (fu : Nat) (a0 : Int) : Option Bool :=
 ((D_impl_between fu a0 3 13).bind fun b111 =>
 bif b111 then
 (some (decide (a0.tmod 2 = 1)))
 else
 (some false)).bind fun b107 =>
 some b107
def D_spec_l03Modulus (fu : Nat) (a0 : Int) : Option Bool :=
 ((D_spec_l01In fu a0 3 13).bind fun b111 =>
 bif b111 then
 (some (decide (a0.tmod 2 = 1)))
 else
 (some false)).bind fun b107 =>
 some b107
def D_spec_l03Mod (fu : Nat) (a0 : Int) (a1 : Int) : Option Int :=
 chk ((a1 : Int) ≠ 0) <|
 chk (in64 (a0.tmod a1 + a1)) <|
 chk ((a1 : Int) ≠ 0) <|
 some ((a0.tmod a1 + a1).tmod a1)
def D_spec_l03Sums_s0 (fu : Nat) (a0 : Int) (a1 : List (List Int)) : ((List Int) × Int) → Option (Lo ((List Int) × Int) (List Int)) := fun (xs193, x194) =>
 bif decide (x194 < ((a1.length : Nat) : Int)) then
 (chk (inR x194 a1.length) <|
 chk (inR 0 ((rw_ a1 x194.toNat).length)) <|
 chk (inR x194 a1.length) <|
 chk (inR 1 ((rw_ a1 x194.toNat).length)) <|
 chk (in64 (rd (rw_ a1 x194.toNat) 0 + (rd (rw_ a1 x194.toNat) 1))) <|
 chk ((a0 : Int) ≠ 0) <|
 chk (xs193.length + 1 ≤ 4294967296) <|
 chk (in64 (x194 + 1)) <|
 some (.go ((xs193 ++ [(rd (rw_ a1 x194.toNat) 0 + (rd (rw_ a1 x194.toNat) 1)).tmod a0]), x194 + 1)))
 else
 (some (.out xs193))
def D_spec_l03Sums (fu : Nat) (a0 : Int) (a1 : List (List Int)) : Option (List Int) :=
 (loopF (D_spec_l03Sums_s0 fu a0 a1) fu ([], 0)).bind fun xs238 =>
 some xs238
def D_impl_sums_s0 (fu : Nat) (a0 : Int) (a1 : List (List Int)) : ((List Int) × Int) → Option (Lo ((List Int) × Int) (List Int)) := fun (xs181, x182) =>
 bif decide (x182 < ((a1.length : Nat) : Int)) then
 (chk (inR x182 a1.length) <|
 chk (inR 0 ((rw_ a1 x182.toNat).length)) <|
 chk (inR 1 ((rw_ a1 x182.toNat).length)) <|
 chk (in64 (rd (rw_ a1 x182.toNat) 0 + (rd (rw_ a1 x182.toNat) 1))) <|
 chk ((a0 : Int) ≠ 0) <|
 chk (xs181.length + 1 ≤ 4294967296) <|
 chk (in64 (x182 + 1)) <|
 some (.go ((xs181 ++ [(rd (rw_ a1 x182.toNat) 0 + (rd (rw_ a1 x182.toNat) 1)).tmod a0]), x182 + 1)))
 else
 (some (.out xs181))
def D_impl_sums (fu : Nat) (a0 : Int) (a1 : List (List Int)) : Option (List Int) :=
 (loopF (D_impl_sums_s0 fu a0 a1) fu ([], 0)).bind fun xs220 =>
 some xs220
def D_spec_l01Own (fu : Nat) (a0 : List Int) : Option (List Int) :=
 chk (0 + a0.length ≤ 4294967296) <|
 some a0
def D_impl_always (fu : Nat) : Option Bool :=
 some true
def D_laws_likeInts_s0 (fu : Nat) (a0 : List Int) (a1 : List Int) : Int → Option (Lo Int (Unit ⊕ Bool)) := fun x134 =>
 bif decide (x134 < ((a0.length : Nat) : Int)) then
 (chk (inR x134 a0.length) <|
 chk (inR x134 a1.length) <|
 bif !decide (rd a0 x134.toNat = rd a1 x134.toNat) then
 (some (.out (.inr false)))
 else
 (chk (in64 (x134 + 1)) <|
 some (.go (x134 + 1))))
 else
 (some (.out (.inl ())))
def D_laws_likeInts (fu : Nat) (a0 : List Int) (a1 : List Int) : Option Bool :=
 bif !decide (((a0.length : Nat) : Int) = ((a1.length : Nat) : Int)) then
 (some false)
 else
 ((loopF (D_laws_likeInts_s0 fu a0 a1) fu 0).bind fun
 | .inl _ => (some true)
 | .inr v177 => some v177)
def D_laws_rows5_s0 (fu : Nat) (a0 : List (List Int)) (a1 : List (List Int)) : Int → Option (Lo Int (Unit ⊕ Bool)) := fun x158 =>
 bif decide (x158 < ((a0.length : Nat) : Int)) then
 (chk (inR x158 a0.length) <|
 chk (inR x158 a1.length) <|
 (D_laws_likeInts fu (rw_ a0 x158.toNat) (rw_ a1 x158.toNat)).bind fun b210 =>
 bif !b210 then
 (some (.out (.inr false)))
 else
 (chk (in64 (x158 + 1)) <|
 some (.go (x158 + 1))))
 else
 (some (.out (.inl ())))
def D_laws_rows5 (fu : Nat) (a0 : List (List Int)) (a1 : List (List Int)) : Option Bool :=
 bif !decide (((a0.length : Nat) : Int) = ((a1.length : Nat) : Int)) then
 (some false)
 else
 ((loopF (D_laws_rows5_s0 fu a0 a1) fu 0).bind fun
 | .inl _ => (some true)
 | .inr v225 => some v225)
def D_spec_l03Own_s0 (fu : Nat) (a0 : List (List Int)) : ((List (List Int)) × Int) → Option (Lo ((List (List Int)) × Int) (List (List Int))) := fun (rs194, x196) =>
 bif decide (x196 < ((a0.length : Nat) : Int)) then
 (chk (inR x196 a0.length) <|
 (D_spec_l01Own fu (rw_ a0 x196.toNat)).bind fun xs262 =>
 chk (rs194.length + 1 ≤ 4294967296) <|
 chk (in64 (x196 + 1)) <|
 some (.go ((rs194 ++ [xs262]), x196 + 1)))
 else
 (some (.out rs194))
def D_spec_l03Own (fu : Nat) (a0 : List (List Int)) : Option (List (List Int)) :=
 (loopF (D_spec_l03Own_s0 fu a0) fu ([], 0)).bind fun rs240 =>
 some rs240
def D_spec_l03Patterned_s0 (fu : Nat) (a0 : Int) : ((List (List Int)) × Int) → Option (Lo ((List (List Int)) × Int) (List (List Int))) := fun (rs180, x182) =>
 chk (in64 (a0 - 1)) <|
 chk ((2 : Int) ≠ 0 ∧ in64 ((a0 - 1).tdiv 2)) <|
 bif decide (x182 ≤ (a0 - 1).tdiv 2) then
 (chk (in64 (a0 - x182)) <|
 chk (rs180.length + 1 ≤ 4294967296) <|
 chk (in64 (x182 + 1)) <|
 some (.go ((rs180 ++ [[x182, a0 - x182]]), x182 + 1)))
 else
 (some (.out rs180))
def D_spec_l03Patterned (fu : Nat) (a0 : Int) : Option (List (List Int)) :=
 (loopF (D_spec_l03Patterned_s0 fu a0) fu ([], 1)).bind fun rs219 =>
 some rs219
def D_spec_l03Gcd_s0 (fu : Nat) : (Int × Int) → Option (Lo (Int × Int) Int) := fun (x118, x119) =>
 bif !decide (x119 = 0) then
 (chk ((x119 : Int) ≠ 0) <|
 some (.go (x119, x118.tmod x119)))
 else
 (some (.out x118))
def D_spec_l03Gcd (fu : Nat) (a0 : Int) (a1 : Int) : Option Int :=
 (loopF (D_spec_l03Gcd_s0 fu) fu (a0, a1)).bind fun x128 =>
 some x128
end Go.Proofs.YtdafmafigcljkaaGreat
