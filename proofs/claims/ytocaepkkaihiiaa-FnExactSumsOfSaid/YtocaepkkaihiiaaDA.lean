/-
  What functions of the program compute, printed by a program. No condition.
-/
import Derived.Test.YtocaepkkaihiiaaAm25
namespace Go.Proofs.Ytocaepkkaihiiaa
open Go Am
set_option linter.unusedVariables false
def D_spec_l01In (fu : Nat) (a0 : Int) (a1 : Int) (a2 : Int) : Option Bool :=
 some ((decide (a1 ≤ a0)) && (decide (a0 ≤ a2)))
def D_impl_between (fu : Nat) (a0 : Int) (a1 : Int) (a2 : Int) : Option Bool :=
 some ((decide (a1 ≤ a0)) && (decide (a0 ≤ a2)))
def D_spec_l01Round_s0 (fu : Nat) (a0 : Int) (a1 : List Int) : Int → Option (Lo Int (Unit ⊕ Bool)) := fun x323 =>
 bif decide (x323 < 14) then
 ((bif decide (a0 ≤ x323) then
 (chk (inR x323 14) <|
 bif !decide (rd a1 x323.toNat = 0) then
 (some true)
 else
 (bif decide (x323 < a0) then
 (chk (inR x323 14) <|
 chk (in64 (a0 - 1)) <|
 (D_spec_l01In fu (rd a1 x323.toNat) 0 (a0 - 1)).bind fun b514 =>
 bif !b514 then
 (some true)
 else
 (chk (inR x323 14) <|
 chk (inR (rd a1 x323.toNat) 14) <|
 some (!decide (rd a1 ((rd a1 x323.toNat).toNat) = x323))))
 else
 (some false)))
 else
 (bif decide (x323 < a0) then
 (chk (inR x323 14) <|
 chk (in64 (a0 - 1)) <|
 (D_spec_l01In fu (rd a1 x323.toNat) 0 (a0 - 1)).bind fun b536 =>
 bif !b536 then
 (some true)
 else
 (chk (inR x323 14) <|
 chk (inR (rd a1 x323.toNat) 14) <|
 some (!decide (rd a1 ((rd a1 x323.toNat).toNat) = x323))))
 else
 (some false))).bind fun b496 =>
 bif b496 then
 (some (.out (.inr false)))
 else
 (chk (in64 (x323 + 1)) <|
 some (.go (x323 + 1))))
 else
 (some (.out (.inl ())))
def D_spec_l01Round (fu : Nat) (a0 : Int) (a1 : List Int) : Option Bool :=
 (D_spec_l01In fu a0 2 14).bind fun b104 =>
 bif !b104 then
 (some false)
 else
 ((loopF (D_spec_l01Round_s0 fu a0 a1) fu 0).bind fun
 | .inl _ => (some true)
 | .inr v567 => some v567)
def D_impl_IsRound_s0 (fu : Nat) (a0 : Int) (a1 : List Int) : Int → Option (Lo Int (Unit ⊕ Bool)) := fun x305 =>
 bif decide (x305 < 14) then
 (chk (inR x305 14) <|
 (bif decide (a0 ≤ x305) then
 (bif !decide (rd a1 x305.toNat = 0) then
 (some true)
 else
 (bif decide (x305 < a0) then
 (chk (in64 (a0 - 1)) <|
 (D_impl_between fu (rd a1 x305.toNat) 0 (a0 - 1)).bind fun b466 =>
 bif !b466 then
 (some true)
 else
 (chk (inR (rd a1 x305.toNat) 14) <|
 some (!decide (rd a1 ((rd a1 x305.toNat).toNat) = x305))))
 else
 (some false)))
 else
 (bif decide (x305 < a0) then
 (chk (in64 (a0 - 1)) <|
 (D_impl_between fu (rd a1 x305.toNat) 0 (a0 - 1)).bind fun b484 =>
 bif !b484 then
 (some true)
 else
 (chk (inR (rd a1 x305.toNat) 14) <|
 some (!decide (rd a1 ((rd a1 x305.toNat).toNat) = x305))))
 else
 (some false))).bind fun b452 =>
 bif b452 then
 (some (.out (.inr false)))
 else
 (chk (in64 (x305 + 1)) <|
 some (.go (x305 + 1))))
 else
 (some (.out (.inl ())))
def D_impl_IsRound (fu : Nat) (a0 : Int) (a1 : List Int) : Option Bool :=
 (D_impl_between fu a0 2 14).bind fun b104 =>
 bif !b104 then
 (some false)
 else
 ((loopF (D_impl_IsRound_s0 fu a0 a1) fu 0).bind fun
 | .inl _ => (some true)
 | .inr v513 => some v513)
def D_impl_free_s0 (fu : Nat) (a0 : Int) : ((List Int) × Int) → Option (Lo ((List Int) × Int) (List Int)) := fun (xs140, x141) =>
 bif decide (x141 < a0) then
 (chk (inR x141 14) <|
 chk (in64 (x141 + 1)) <|
 some (.go ((xs140.set x141.toNat x141), x141 + 1)))
 else
 (some (.out xs140))
def D_impl_free (fu : Nat) (a0 : Int) : Option (List Int) :=
 (loopF (D_impl_free_s0 fu a0) fu ((List.replicate 14 0), 0)).bind fun xs156 =>
 some xs156
def D_spec_l01Free_s0 (fu : Nat) (a0 : Int) : ((List Int) × Int) → Option (Lo ((List Int) × Int) (List Int)) := fun (xs140, x141) =>
 bif decide (x141 < a0) then
 (chk (inR x141 14) <|
 chk (in64 (x141 + 1)) <|
 some (.go ((xs140.set x141.toNat x141), x141 + 1)))
 else
 (some (.out xs140))
def D_spec_l01Free (fu : Nat) (a0 : Int) : Option (List Int) :=
 (loopF (D_spec_l01Free_s0 fu a0) fu ((List.replicate 14 0), 0)).bind fun xs156 =>
 some xs156
def D_impl_Round_meet (fu : Nat) (a0 : List Int) (a1 : Int) (a2 : Int) : Option (List Int) :=
 chk (inR a1 14) <|
 chk (inR a2 14) <|
 some ((a0.set a1.toNat a2).set a2.toNat a1)
def D_impl_always (fu : Nat) : Option Bool :=
 some true
end Go.Proofs.Ytocaepkkaihiiaa
