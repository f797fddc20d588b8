/-
  What functions of the program compute, printed by a program. No condition.
-/
import Derived.Test.YtdafmafigcljkaaDA
namespace Go.Proofs.Ytdafmafigcljkaa
open Go Am
set_option linter.unusedVariables false
def D_laws_likeInts_s0 (fu : Nat) (a0 : List Int) (a1 : List Int) : Int → Option (Lo Int (Unit ⊕ Bool)) := fun x134 =>
 bif decide (x134 < ((a0.length : Nat) : Int)) then
 (chk (inR x134 a0.length) <|
 chk (inR x134 a1.length) <|
 bif !decide (rd a0 x134.toNat = rd a1 x134.toNat) then
 (some (.out (.inr false)))
 else
 (chk (in64 (x134 + 1)) <|
 some (.go (x134 + 1))))
 else
 (some (.out (.inl ())))
def D_laws_likeInts (fu : Nat) (a0 : List Int) (a1 : List Int) : Option Bool :=
 bif !decide (((a0.length : Nat) : Int) = ((a1.length : Nat) : Int)) then
 (some false)
 else
 ((loopF (D_laws_likeInts_s0 fu a0 a1) fu 0).bind fun
 | .inl _ => (some true)
 | .inr v177 => some v177)
def D_laws_rows9_s0 (fu : Nat) (a0 : List (List Int)) (a1 : List (List Int)) : Int → Option (Lo Int (Unit ⊕ Bool)) := fun x158 =>
 bif decide (x158 < ((a0.length : Nat) : Int)) then
 (chk (inR x158 a0.length) <|
 chk (inR x158 a1.length) <|
 (D_laws_likeInts fu (rw_ a0 x158.toNat) (rw_ a1 x158.toNat)).bind fun b210 =>
 bif !b210 then
 (some (.out (.inr false)))
 else
 (chk (in64 (x158 + 1)) <|
 some (.go (x158 + 1))))
 else
 (some (.out (.inl ())))
def D_laws_rows9 (fu : Nat) (a0 : List (List Int)) (a1 : List (List Int)) : Option Bool :=
 bif !decide (((a0.length : Nat) : Int) = ((a1.length : Nat) : Int)) then
 (some false)
 else
 ((loopF (D_laws_rows9_s0 fu a0 a1) fu 0).bind fun
 | .inl _ => (some true)
 | .inr v225 => some v225)
def D_laws_sum_s0 (fu : Nat) (a0 : List Int) : (Int × Int) → Option (Lo (Int × Int) Int) := fun (x126, x127) =>
 bif decide (x127 < ((a0.length : Nat) : Int)) then
 (chk (inR x127 a0.length) <|
 chk (in64 (x126 + (rd a0 x127.toNat))) <|
 chk (in64 (x127 + 1)) <|
 some (.go (x126 + (rd a0 x127.toNat), x127 + 1)))
 else
 (some (.out x126))
def D_laws_sum (fu : Nat) (a0 : List Int) : Option Int :=
 (loopF (D_laws_sum_s0 fu a0) fu (0, 0)).bind fun x140 =>
 some x140
def D_laws_hasInt_s0 (fu : Nat) (a0 : List Int) (a1 : Int) : Int → Option (Lo Int (Unit ⊕ Bool)) := fun x127 =>
 bif decide (x127 < ((a0.length : Nat) : Int)) then
 (chk (inR x127 a0.length) <|
 bif decide (rd a0 x127.toNat = a1) then
 (some (.out (.inr true)))
 else
 (chk (in64 (x127 + 1)) <|
 some (.go (x127 + 1))))
 else
 (some (.out (.inl ())))
def D_laws_hasInt (fu : Nat) (a0 : List Int) (a1 : Int) : Option Bool :=
 (loopF (D_laws_hasInt_s0 fu a0 a1) fu 0).bind fun
 | .inl _ => (some false)
 | .inr v166 => some v166
end Go.Proofs.Ytdafmafigcljkaa
