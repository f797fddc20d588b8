/-
  What functions of the program compute, printed by a program. No condition.
-/
import Derived.Test.YtdafmafigcljkaaDM
namespace Go.Proofs.Ytdafmafigcljkaa
open Go Am
set_option linter.unusedVariables false
def D_laws_eqInt64SSS_s0 (fu : Nat) (a0 : List (List (List Int))) (a1 : List (List (List Int))) : Int → Option (Lo Int (Unit ⊕ Bool)) := fun x166 =>
 bif decide (x166 < ((a0.length : Nat) : Int)) then
 (chk (inR x166 a0.length) <|
 chk (inR x166 a1.length) <|
 (D_laws_eqInt64SS fu (rw3 a0 x166.toNat) (rw3 a1 x166.toNat)).bind fun b226 =>
 bif !b226 then
 (some (.out (.inr false)))
 else
 (chk (in64 (x166 + 1)) <|
 some (.go (x166 + 1))))
 else
 (some (.out (.inl ())))
def D_laws_eqInt64SSS (fu : Nat) (a0 : List (List (List Int))) (a1 : List (List (List Int))) : Option Bool :=
 bif !decide (((a0.length : Nat) : Int) = ((a1.length : Nat) : Int)) then
 (some false)
 else
 ((loopF (D_laws_eqInt64SSS_s0 fu a0 a1) fu 0).bind fun
 | .inl _ => (some true)
 | .inr v241 => some v241)
def D_laws_markInt64SSS_s0 (fu : Nat) (a0 : List (List (List Int))) : ((List (List (List Int))) × Int × Int) → Option (Lo ((List (List (List Int))) × Int × Int) ((List (List (List Int))) × Int)) := fun (rss183, x185, x186) =>
 bif decide (x186 < ((a0.length : Nat) : Int)) then
 (chk (inR x186 a0.length) <|
 (D_laws_markInt64SS fu (rw3 rss183 x186.toNat) x185).bind fun (x256, rs257) =>
 chk (in64 (x186 + 1)) <|
 some (.go ((rss183.set x186.toNat rs257), x256, x186 + 1)))
 else
 (some (.out (rss183, x185)))
def D_laws_markInt64SSS (fu : Nat) (a0 : List (List (List Int))) (a1 : Int) : Option (Int × (List (List (List Int)))) :=
 (loopF (D_laws_markInt64SSS_s0 fu a0) fu (a0, a1, 0)).bind fun (rss226, x228) =>
 some (x228, rss226)
def D_laws_heldInt64SSS_s0 (fu : Nat) (a0 : List (List (List Int))) : (Int × Int) → Option (Lo (Int × Int) (Int ⊕ Int)) := fun (x148, x149) =>
 bif decide (x149 < ((a0.length : Nat) : Int)) then
 (chk (inR x149 a0.length) <|
 (D_laws_heldInt64SS fu (rw3 a0 x149.toNat) x148).bind fun x194 =>
 bif decide (x194 < 0) then
 (some (.out (.inr (-1))))
 else
 (chk (in64 (x149 + 1)) <|
 some (.go (x194, x149 + 1))))
 else
 (some (.out (.inl x148)))
def D_laws_heldInt64SSS (fu : Nat) (a0 : List (List (List Int))) (a1 : Int) : Option Int :=
 (loopF (D_laws_heldInt64SSS_s0 fu a0) fu (a1, 0)).bind fun
 | .inl x173 => (some x173)
 | .inr v209 => some v209
end Go.Proofs.Ytdafmafigcljkaa
