/-
  What functions of the program compute, printed by a program. No condition.
-/
import Derived.Test.YtfiilgnebmidbaaDoorDL
import Derived.Test.YtfiilgnebmidbaaDoorDM
namespace Go.Proofs.YtfiilgnebmidbaaDoor
open Go Am
set_option linter.unusedVariables false
def D_slices_IndexFunc_SSint64_Sint64_s0 (fu : Nat) (a0 : List (List Int)) (a1 : (List Int) → Option Bool) : Int → Option (Lo Int (Unit ⊕ Int)) := fun x141 =>
 bif decide (x141 < ((a0.length : Nat) : Int)) then
 (chk (inR x141 a0.length) <|
 (a1 (rw_ a0 x141.toNat)).bind fun b180 =>
 bif b180 then
 (some (.out (.inr x141)))
 else
 (chk (in64 (x141 + 1)) <|
 some (.go (x141 + 1))))
 else
 (some (.out (.inl ())))
def D_slices_IndexFunc_SSint64_Sint64 (fu : Nat) (a0 : List (List Int)) (a1 : (List Int) → Option Bool) : Option Int :=
 (loopF (D_slices_IndexFunc_SSint64_Sint64_s0 fu a0 a1) fu 0).bind fun
 | .inl _ => (some (-1))
 | .inr v194 => some v194
def D_slices_ContainsFunc_SSint64_Sint64 (fu : Nat) (a0 : List (List Int)) (a1 : (List Int) → Option Bool) : Option Bool :=
 (D_slices_IndexFunc_SSint64_Sint64 fu a0 a1).bind fun x100 =>
 some (decide (0 ≤ x100))
def D_impl_RoundOf_1 (fu : Nat) (a0 : List Int) (b0_0 : Int) : Option Bool :=
 (bif !decide (((a0.length : Nat) : Int) = 2) then
 (some true)
 else
 (chk (inR 0 a0.length) <|
 chk (in64 (b0_0 - 1)) <|
 (D_impl_between fu (rd a0 0) 0 (b0_0 - 1)).bind fun b140 =>
 bif !b140 then
 (some true)
 else
 (chk (inR 1 a0.length) <|
 chk (in64 (b0_0 - 1)) <|
 (D_impl_between fu (rd a0 1) 0 (b0_0 - 1)).bind fun b151 =>
 bif !b151 then
 (some true)
 else
 (chk (inR 0 a0.length) <|
 chk (inR 1 a0.length) <|
 some (decide (rd a0 0 = rd a0 1)))))).bind fun b129 =>
 some b129
def D_impl_RoundOf_s0 (fu : Nat) (a1 : List (List Int)) : ((List Int) × Int) → Option (Lo ((List Int) × Int) ((List Int) ⊕ ((List Int) × Int))) := fun (xs329, x330) =>
 bif decide (x330 < ((a1.length : Nat) : Int)) then
 (chk (inR x330 a1.length) <|
 (chk (inR 0 ((rw_ a1 x330.toNat).length)) <|
 chk (inR (rd (rw_ a1 x330.toNat) 0) 14) <|
 chk (inR 0 ((rw_ a1 x330.toNat).length)) <|
 bif !decide (rd xs329 ((rd (rw_ a1 x330.toNat) 0).toNat) = rd (rw_ a1 x330.toNat) 0) then
 (some true)
 else
 (chk (inR 1 ((rw_ a1 x330.toNat).length)) <|
 chk (inR (rd (rw_ a1 x330.toNat) 1) 14) <|
 chk (inR 1 ((rw_ a1 x330.toNat).length)) <|
 some (!decide (rd xs329 ((rd (rw_ a1 x330.toNat) 1).toNat) = rd (rw_ a1 x330.toNat) 1)))).bind fun b448 =>
 bif b448 then
 (some (.out (.inr ((List.replicate 14 0), 5))))
 else
 (chk (inR 0 ((rw_ a1 x330.toNat).length)) <|
 chk (inR 1 ((rw_ a1 x330.toNat).length)) <|
 (D_impl_Round_meet fu xs329 (rd (rw_ a1 x330.toNat) 0) (rd (rw_ a1 x330.toNat) 1)).bind fun xs486 =>
 chk (in64 (x330 + 1)) <|
 some (.go (xs486, x330 + 1))))
 else
 (some (.out (.inl xs329)))
def D_impl_RoundOf (fu : Nat) (a0 : Int) (a1 : List (List Int)) : Option ((List Int) × Int) :=
 ((D_impl_between fu a0 2 14).bind fun b128 =>
 bif !b128 then
 (some true)
 else
 (bif decide (14 < ((a1.length : Nat) : Int)) then
 (some true)
 else
 ((D_slices_ContainsFunc_SSint64_Sint64 fu a1 (fun x0' => D_impl_RoundOf_1 fu x0' a0)).bind fun b142 =>
 some b142))).bind fun b124 =>
 bif b124 then
 (some ((List.replicate 14 0), 2))
 else
 ((D_impl_free fu a0).bind fun xs157 =>
 (loopF (D_impl_RoundOf_s0 fu a1) fu (xs157, 0)).bind fun
 | .inl xs409 => (some (xs409, 0))
 | .inr v508 => some v508)
def D_spec_l01Made_s0 (fu : Nat) (a1 : List (List Int)) : ((List Int) × Int) → Option (Lo ((List Int) × Int) (List Int)) := fun (xs220, x221) =>
 bif decide (x221 < ((a1.length : Nat) : Int)) then
 (chk (inR x221 a1.length) <|
 chk (inR 0 ((rw_ a1 x221.toNat).length)) <|
 chk (inR x221 a1.length) <|
 chk (inR 1 ((rw_ a1 x221.toNat).length)) <|
 chk (inR (rd (rw_ a1 x221.toNat) 0) 14) <|
 chk (inR x221 a1.length) <|
 chk (inR 1 ((rw_ a1 x221.toNat).length)) <|
 chk (inR x221 a1.length) <|
 chk (inR 0 ((rw_ a1 x221.toNat).length)) <|
 chk (inR (rd (rw_ a1 x221.toNat) 1) 14) <|
 chk (in64 (x221 + 1)) <|
 some (.go (((xs220.set ((rd (rw_ a1 x221.toNat) 0).toNat) (rd (rw_ a1 x221.toNat) 1)).set ((rd (rw_ a1 x221.toNat) 1).toNat) (rd (rw_ a1 x221.toNat) 0)), x221 + 1)))
 else
 (some (.out xs220))
def D_spec_l01Made (fu : Nat) (a0 : Int) (a1 : List (List Int)) : Option (List Int) :=
 (D_spec_l01Free fu a0).bind fun xs104 =>
 (loopF (D_spec_l01Made_s0 fu a1) fu (xs104, 0)).bind fun xs272 =>
 some xs272
end Go.Proofs.YtfiilgnebmidbaaDoor
