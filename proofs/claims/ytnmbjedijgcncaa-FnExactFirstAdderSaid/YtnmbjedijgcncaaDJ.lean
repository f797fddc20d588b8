/-
  What functions of the program compute, printed by a program. No condition.
-/
import Derived.Test.YtnmbjedijgcncaaDI
namespace Go.Proofs.Ytnmbjedijgcncaa
open Go Am
set_option linter.unusedVariables false
def D_spec_FirstAdder (fu : Nat) (a0 : Int) (a1 : List (List Int)) : Option ((List Int) × Int) :=
 (D_spec_l03Code fu a0 a1).bind fun x100 =>
 bif !decide (x100 = 0) then
 (some ([], x100))
 else
 ((D_spec_l03FindAdder fu a0 a1 []).bind fun (xs114, b115) =>
 bif !b115 then
 (some ([], 4))
 else
 (some (xs114, 0)))
def D_impl_FirstAdder (fu : Nat) (a0 : Int) (a1 : List (List Int)) : Option ((List Int) × Int) :=
 (D_impl_starterCode fu a0 (fun _ => D_impl_always fu ) [a1]).bind fun x104 =>
 bif !decide (x104 = 0) then
 (some ([], x104))
 else
 ((D_impl_firstAdder fu a0 a1 []).bind fun xs115 =>
 bif decide (xs115 = []) then
 (some ([], 4))
 else
 (some (xs115, 0)))
end Go.Proofs.Ytnmbjedijgcncaa
