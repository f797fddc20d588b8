/-
  What functions of the program compute, printed by a program. No condition.
-/
import Derived.Test.YtakfkiahhfdjfaaDH
namespace Go.Proofs.Ytakfkiahhfdjfaa
open Go Am
set_option linter.unusedVariables false
def D_laws_FnExactReorderRounds (fu : Nat) (a0_0 : Int) (a0_1 : List (List Int)) (a1 : List Int) : Option Bool :=
 bif decide (1048576 < ((a1.length : Nat) : Int)) then
 (some true)
 else
 ((D_laws_szSchedule fu a0_0 a0_1 1048576).bind fun x107 =>
 bif decide (x107 < 0) then
 (some true)
 else
 ((D_laws_toSchedule fu a0_0 a0_1).bind fun (x114, rs115) =>
 (D_laws_toInt64S fu a1).bind fun xs127 =>
 (D_spec_ReorderRounds fu x114 rs115 xs127).bind fun (x138, rs139, x140) =>
 (D_laws_toSchedule fu a0_0 a0_1).bind fun (x158, rs159) =>
 (D_laws_toInt64S fu a1).bind fun xs177 =>
 (D_impl_ReorderRounds fu x158 rs159 xs177).bind fun (x188, rs189, x190) =>
 ((D_laws_eqSchedule fu x188 rs189 x138 rs139).bind fun b227 =>
 bif !b227 then
 (some true)
 else
 (some (!decide (x190 = x140)))).bind fun b223 =>
 bif b223 then
 (some false)
 else
 ((D_laws_toSchedule fu a0_0 a0_1).bind fun (x258, rs259) =>
 (D_laws_eqSchedule fu x158 rs159 x258 rs259).bind fun b271 =>
 bif !b271 then
 (some false)
 else
 ((D_laws_toInt64S fu a1).bind fun xs278 =>
 (D_laws_eqInt64S fu xs177 xs278).bind fun b289 =>
 bif !b289 then
 (some false)
 else
 ((D_laws_markSchedule fu x158 rs159 1).bind fun (x297, rs298) =>
 (D_laws_markInt64S fu xs177 x297).bind fun (x308, xs309) =>
 (bif decide (x308 < 0) then
 (some true)
 else
 ((D_laws_eqSchedule fu x188 rs189 x138 rs139).bind fun b345 =>
 bif !b345 then
 (some true)
 else
 (some (!decide (x190 = x140))))).bind fun b332 =>
 bif b332 then
 (some false)
 else
 ((D_laws_markSchedule fu x188 rs189 1).bind fun (x371, rs372) =>
 (D_laws_heldSchedule fu x188 rs372 1).bind fun x381 =>
 bif decide (x381 < 0) then
 (some false)
 else
 (bif !decide (x381 = x371) then
 (some false)
 else
 ((D_laws_toSchedule fu a0_0 a0_1).bind fun (x391, rs392) =>
 (D_laws_toInt64S fu a1).bind fun xs404 =>
 (D_impl_ReorderRounds fu x391 rs392 xs404).bind fun (x415, rs416, x417) =>
 ((D_laws_eqSchedule fu x415 rs416 x138 rs139).bind fun b448 =>
 bif !b448 then
 (some true)
 else
 (some (!decide (x417 = x140)))).bind fun b444 =>
 bif b444 then
 (some false)
 else
 ((D_laws_heldSchedule fu x188 rs372 1).bind fun x467 =>
 bif decide (x467 < 0) then
 (some false)
 else
 (bif !decide (x467 = x371) then
 (some false)
 else
 (some true)))))))))))
def D_laws_FnExactRenumberTeams (fu : Nat) (a0_0 : Int) (a0_1 : List (List Int)) (a1 : List Int) : Option Bool :=
 bif decide (1048576 < ((a1.length : Nat) : Int)) then
 (some true)
 else
 ((D_laws_szSchedule fu a0_0 a0_1 1048576).bind fun x107 =>
 bif decide (x107 < 0) then
 (some true)
 else
 ((D_laws_toSchedule fu a0_0 a0_1).bind fun (x114, rs115) =>
 (D_laws_toInt64S fu a1).bind fun xs127 =>
 (D_spec_RenumberTeams fu x114 rs115 xs127).bind fun (x138, rs139, x140) =>
 (D_laws_toSchedule fu a0_0 a0_1).bind fun (x158, rs159) =>
 (D_laws_toInt64S fu a1).bind fun xs177 =>
 (D_impl_RenumberTeams fu x158 rs159 xs177).bind fun (x188, rs189, x190) =>
 ((D_laws_eqSchedule fu x188 rs189 x138 rs139).bind fun b227 =>
 bif !b227 then
 (some true)
 else
 (some (!decide (x190 = x140)))).bind fun b223 =>
 bif b223 then
 (some false)
 else
 ((D_laws_toSchedule fu a0_0 a0_1).bind fun (x258, rs259) =>
 (D_laws_eqSchedule fu x158 rs159 x258 rs259).bind fun b271 =>
 bif !b271 then
 (some false)
 else
 ((D_laws_toInt64S fu a1).bind fun xs278 =>
 (D_laws_eqInt64S fu xs177 xs278).bind fun b289 =>
 bif !b289 then
 (some false)
 else
 ((D_laws_markSchedule fu x158 rs159 1).bind fun (x297, rs298) =>
 (D_laws_markInt64S fu xs177 x297).bind fun (x308, xs309) =>
 (bif decide (x308 < 0) then
 (some true)
 else
 ((D_laws_eqSchedule fu x188 rs189 x138 rs139).bind fun b345 =>
 bif !b345 then
 (some true)
 else
 (some (!decide (x190 = x140))))).bind fun b332 =>
 bif b332 then
 (some false)
 else
 ((D_laws_markSchedule fu x188 rs189 1).bind fun (x371, rs372) =>
 (D_laws_heldSchedule fu x188 rs372 1).bind fun x381 =>
 bif decide (x381 < 0) then
 (some false)
 else
 (bif !decide (x381 = x371) then
 (some false)
 else
 ((D_laws_toSchedule fu a0_0 a0_1).bind fun (x391, rs392) =>
 (D_laws_toInt64S fu a1).bind fun xs404 =>
 (D_impl_RenumberTeams fu x391 rs392 xs404).bind fun (x415, rs416, x417) =>
 ((D_laws_eqSchedule fu x415 rs416 x138 rs139).bind fun b448 =>
 bif !b448 then
 (some true)
 else
 (some (!decide (x417 = x140)))).bind fun b444 =>
 bif b444 then
 (some false)
 else
 ((D_laws_heldSchedule fu x188 rs372 1).bind fun x467 =>
 bif decide (x467 < 0) then
 (some false)
 else
 (bif !decide (x467 = x371) then
 (some false)
 else
 (some true)))))))))))
end Go.Proofs.Ytakfkiahhfdjfaa
