
/-
  What functions of the program compute, printed by a program. No condition.
-/
import Derived.Test.YtdafmafigcljkaaGreatDB
import Derived.Test.YtdafmafigcljkaaGreatDAx
namespace Go.Proofs.YtdafmafigcljkaaGreat
open Go Am
set_option linter.unusedVariables false
def D_impl_firstAdder_s0 (self : Int → (List (List Int)) → (List Int) → Option (List Int)) (fu : Nat) (a0 : Int) (a1 : List (List Int)) (a2 : List Int) : Int → Option (Lo Int (Unit ⊕ (List Int))) := fun x222 =>
 bif decide (x222 < a0) then
 ((D_slices_Clone_Sint64_int64 fu a2).bind fun xs293 =>
 chk (xs293.length + 1 ≤ 4294967296) <|
 (D_impl_isAdder fu a0 a1 (xs293 ++ [x222])).bind fun b316 =>
 bif b316 then
 ((self a0 a1 (xs293 ++ [x222])).bind fun xs323 =>
 bif !decide (xs323 = []) then
 (chk (0 < xs323.length) <|
 some (.out (.inr xs323)))
 else
 (chk (in64 (x222 + 1)) <|
 some (.go (x222 + 1))))
 else
 (chk (in64 (x222 + 1)) <|
 some (.go (x222 + 1))))
 else
 (some (.out (.inl ())))
def D_impl_firstAdder : Nat → Int → (List (List Int)) → (List Int) → Option (List Int)
 | 0, _, _, _ => none
 | fu + 1, a0, a1, a2 =>
 bif decide (((a2.length : Nat) : Int) = ((a1.length : Nat) : Int)) then
 (chk (0 < a2.length) <|
 some a2)
 else
 ((loopF (D_impl_firstAdder_s0 (D_impl_firstAdder fu) fu a0 a1 a2) fu 1).bind fun
 | .inl _ => (some [])
 | .inr v356 => some v356)
def D_spec_l03FindAdder_s0 (self : Int → (List (List Int)) → (List Int) → Option ((List Int) × Bool)) (fu : Nat) (a0 : Int) (a1 : List (List Int)) (a2 : List Int) : Int → Option (Lo Int (Unit ⊕ ((List Int) × Bool))) := fun x219 =>
 bif decide (x219 < a0) then
 ((D_spec_l01Own fu a2).bind fun xs289 =>
 chk (xs289.length + 1 ≤ 4294967296) <|
 (D_spec_l03Adder fu a0 a1 (xs289 ++ [x219])).bind fun b312 =>
 bif !b312 then
 (chk (in64 (x219 + 1)) <|
 some (.go (x219 + 1)))
 else
 ((self a0 a1 (xs289 ++ [x219])).bind fun (xs324, b325) =>
 bif b325 then
 (some (.out (.inr (xs324, true))))
 else
 (chk (in64 (x219 + 1)) <|
 some (.go (x219 + 1)))))
 else
 (some (.out (.inl ())))
def D_spec_l03FindAdder : Nat → Int → (List (List Int)) → (List Int) → Option ((List Int) × Bool)
 | 0, _, _, _ => none
 | fu + 1, a0, a1, a2 =>
 bif decide (((a2.length : Nat) : Int) = ((a1.length : Nat) : Int)) then
 (some (a2, true))
 else
 ((loopF (D_spec_l03FindAdder_s0 (D_spec_l03FindAdder fu) fu a0 a1 a2) fu 1).bind fun
 | .inl _ => (some ([], false))
 | .inr v352 => some v352)
def D_spec_FirstAdder (fu : Nat) (a0 : Int) (a1 : List (List Int)) : Option ((List Int) × Int) :=
 (D_spec_l03Code fu a0 a1).bind fun x100 =>
 bif !decide (x100 = 0) then
 (some ([], x100))
 else
 ((D_spec_l03FindAdder fu a0 a1 []).bind fun (xs114, b115) =>
 bif !b115 then
 (some ([], 4))
 else
 (some (xs114, 0)))
def D_impl_FirstAdder (fu : Nat) (a0 : Int) (a1 : List (List Int)) : Option ((List Int) × Int) :=
 (D_impl_starterCode fu a0 (fun _ => D_impl_always fu ) [a1]).bind fun x104 =>
 bif !decide (x104 = 0) then
 (some ([], x104))
 else
 ((D_impl_firstAdder fu a0 a1 []).bind fun xs115 =>
 bif decide (xs115 = []) then
 (some ([], 4))
 else
 (some (xs115, 0)))
end Go.Proofs.YtdafmafigcljkaaGreat
