/-
  What functions of the program compute, printed by a program. No condition.
-/
import Derived.Test.YtfiilgnebmidbaaDoorDI
namespace Go.Proofs.YtfiilgnebmidbaaDoor
open Go Am
set_option linter.unusedVariables false
def D_laws_FnExactParseSchedule (fu : Nat) (a0 : ByteArray) : Option Bool :=
 bif decide (1048576 < ((a0.size : Nat) : Int)) then
 (some true)
 else
 ((D_spec_ParseSchedule fu a0).bind fun (x103, rs104, x105) =>
 (D_impl_ParseSchedule fu a0).bind fun (x123, rs124, x125) =>
 ((D_laws_eqSchedule fu x123 rs124 x103 rs104).bind fun b158 =>
 bif !b158 then
 (some true)
 else
 (some (!decide (x125 = x105)))).bind fun b154 =>
 bif b154 then
 (some false)
 else
 ((D_laws_markSchedule fu x123 rs124 1).bind fun (x180, rs181) =>
 (D_laws_heldSchedule fu x123 rs181 1).bind fun x190 =>
 bif decide (x190 < 0) then
 (some false)
 else
 (bif !decide (x190 = x180) then
 (some false)
 else
 ((D_impl_ParseSchedule fu a0).bind fun (x200, rs201, x202) =>
 ((D_laws_eqSchedule fu x200 rs201 x103 rs104).bind fun b233 =>
 bif !b233 then
 (some true)
 else
 (some (!decide (x202 = x105)))).bind fun b229 =>
 bif b229 then
 (some false)
 else
 ((D_laws_heldSchedule fu x123 rs181 1).bind fun x252 =>
 bif decide (x252 < 0) then
 (some false)
 else
 (bif !decide (x252 = x180) then
 (some false)
 else
 (some true)))))))
end Go.Proofs.YtfiilgnebmidbaaDoor
