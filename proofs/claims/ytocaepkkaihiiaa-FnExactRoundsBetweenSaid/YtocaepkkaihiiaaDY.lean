/-
  What functions of the program compute, printed by a program. No condition.
-/
import Derived.Test.YtocaepkkaihiiaaDC
import Derived.Test.YtocaepkkaihiiaaDE
namespace Go.Proofs.Ytocaepkkaihiiaa
open Go Am
set_option linter.unusedVariables false
def D_laws_FnExactAddRound (fu : Nat) (a0_0 : Int) (a0_1 : List (List Int)) (a1 : List Int) : Option Bool :=
 (D_laws_szSchedule fu a0_0 a0_1 1048576).bind fun x108 =>
 bif decide (x108 < 0) then
 (some true)
 else
 ((D_laws_toSchedule fu a0_0 a0_1).bind fun (x115, rs116) =>
 (D_laws_toRound fu a1).bind fun xs128 =>
 (D_spec_AddRound fu x115 rs116 xs128).bind fun (x134, rs135, x136) =>
 (D_laws_toSchedule fu a0_0 a0_1).bind fun (x154, rs155) =>
 (D_laws_toRound fu a1).bind fun xs173 =>
 (D_impl_AddRound fu x154 rs155 xs173).bind fun (x179, rs180, x181) =>
 ((D_laws_eqSchedule fu x179 rs180 x134 rs135).bind fun b218 =>
 bif !b218 then
 (some true)
 else
 (some (!decide (x181 = x136)))).bind fun b214 =>
 bif b214 then
 (some false)
 else
 ((D_laws_toSchedule fu a0_0 a0_1).bind fun (x249, rs250) =>
 (D_laws_eqSchedule fu x154 rs155 x249 rs250).bind fun b262 =>
 bif !b262 then
 (some false)
 else
 ((D_laws_markSchedule fu x154 rs155 1).bind fun (x270, rs271) =>
 (bif decide (x270 < 0) then
 (some true)
 else
 ((D_laws_eqSchedule fu x179 rs180 x134 rs135).bind fun b310 =>
 bif !b310 then
 (some true)
 else
 (some (!decide (x181 = x136))))).bind fun b296 =>
 bif b296 then
 (some false)
 else
 ((D_laws_markSchedule fu x179 rs180 1).bind fun (x338, rs339) =>
 (D_laws_heldSchedule fu x179 rs339 1).bind fun x348 =>
 bif decide (x348 < 0) then
 (some false)
 else
 (bif !decide (x348 = x338) then
 (some false)
 else
 ((D_laws_toSchedule fu a0_0 a0_1).bind fun (x358, rs359) =>
 (D_laws_toRound fu a1).bind fun xs371 =>
 (D_impl_AddRound fu x358 rs359 xs371).bind fun (x377, rs378, x379) =>
 ((D_laws_eqSchedule fu x377 rs378 x134 rs135).bind fun b410 =>
 bif !b410 then
 (some true)
 else
 (some (!decide (x379 = x136)))).bind fun b406 =>
 bif b406 then
 (some false)
 else
 ((D_laws_heldSchedule fu x179 rs339 1).bind fun x429 =>
 bif decide (x429 < 0) then
 (some false)
 else
 (bif !decide (x429 = x338) then
 (some false)
 else
 (some true)))))))))
def D_laws_FnExactOpponentsOf (fu : Nat) (a0_0 : Int) (a0_1 : List (List Int)) (a1 : Int) : Option Bool :=
 (D_laws_szSchedule fu a0_0 a0_1 1048576).bind fun x104 =>
 bif decide (x104 < 0) then
 (some true)
 else
 ((D_laws_toSchedule fu a0_0 a0_1).bind fun (x111, rs112) =>
 (D_spec_OpponentsOf fu x111 rs112 a1).bind fun (xs124, x125) =>
 (D_laws_toSchedule fu a0_0 a0_1).bind fun (x136, rs137) =>
 (D_impl_OpponentsOf fu x136 rs137 a1).bind fun (xs155, x156) =>
 ((D_laws_eqInt64S fu xs155 xs124).bind fun b183 =>
 bif !b183 then
 (some true)
 else
 (some (!decide (x156 = x125)))).bind fun b179 =>
 bif b179 then
 (some false)
 else
 ((D_laws_toSchedule fu a0_0 a0_1).bind fun (x208, rs209) =>
 (D_laws_eqSchedule fu x136 rs137 x208 rs209).bind fun b221 =>
 bif !b221 then
 (some false)
 else
 ((D_laws_markSchedule fu x136 rs137 1).bind fun (x229, rs230) =>
 (bif decide (x229 < 0) then
 (some true)
 else
 ((D_laws_eqInt64S fu xs155 xs124).bind fun b263 =>
 bif !b263 then
 (some true)
 else
 (some (!decide (x156 = x125))))).bind fun b252 =>
 bif b252 then
 (some false)
 else
 ((D_laws_markInt64S fu xs155 1).bind fun (x285, xs286) =>
 (D_laws_heldInt64S fu xs286 1).bind fun x294 =>
 bif decide (x294 < 0) then
 (some false)
 else
 (bif !decide (x294 = x285) then
 (some false)
 else
 ((D_laws_toSchedule fu a0_0 a0_1).bind fun (x304, rs305) =>
 (D_impl_OpponentsOf fu x304 rs305 a1).bind fun (xs317, x318) =>
 ((D_laws_eqInt64S fu xs317 xs124).bind fun b341 =>
 bif !b341 then
 (some true)
 else
 (some (!decide (x318 = x125)))).bind fun b337 =>
 bif b337 then
 (some false)
 else
 ((D_laws_heldInt64S fu xs286 1).bind fun x358 =>
 bif decide (x358 < 0) then
 (some false)
 else
 (bif !decide (x358 = x285) then
 (some false)
 else
 (some true)))))))))
def D_laws_FnExactRoundsBetween (fu : Nat) (a0_0 : Int) (a0_1 : List (List Int)) (a1 : Int) (a2 : Int) : Option Bool :=
 (D_laws_szSchedule fu a0_0 a0_1 1048576).bind fun x104 =>
 bif decide (x104 < 0) then
 (some true)
 else
 ((D_laws_toSchedule fu a0_0 a0_1).bind fun (x111, rs112) =>
 (D_spec_RoundsBetween fu x111 rs112 a1 a2).bind fun (xs124, x125) =>
 (D_laws_toSchedule fu a0_0 a0_1).bind fun (x136, rs137) =>
 (D_impl_RoundsBetween fu x136 rs137 a1 a2).bind fun (xs155, x156) =>
 ((D_laws_eqInt64S fu xs155 xs124).bind fun b183 =>
 bif !b183 then
 (some true)
 else
 (some (!decide (x156 = x125)))).bind fun b179 =>
 bif b179 then
 (some false)
 else
 ((D_laws_toSchedule fu a0_0 a0_1).bind fun (x208, rs209) =>
 (D_laws_eqSchedule fu x136 rs137 x208 rs209).bind fun b221 =>
 bif !b221 then
 (some false)
 else
 ((D_laws_markSchedule fu x136 rs137 1).bind fun (x229, rs230) =>
 (bif decide (x229 < 0) then
 (some true)
 else
 ((D_laws_eqInt64S fu xs155 xs124).bind fun b263 =>
 bif !b263 then
 (some true)
 else
 (some (!decide (x156 = x125))))).bind fun b252 =>
 bif b252 then
 (some false)
 else
 ((D_laws_markInt64S fu xs155 1).bind fun (x285, xs286) =>
 (D_laws_heldInt64S fu xs286 1).bind fun x294 =>
 bif decide (x294 < 0) then
 (some false)
 else
 (bif !decide (x294 = x285) then
 (some false)
 else
 ((D_laws_toSchedule fu a0_0 a0_1).bind fun (x304, rs305) =>
 (D_impl_RoundsBetween fu x304 rs305 a1 a2).bind fun (xs317, x318) =>
 ((D_laws_eqInt64S fu xs317 xs124).bind fun b341 =>
 bif !b341 then
 (some true)
 else
 (some (!decide (x318 = x125)))).bind fun b337 =>
 bif b337 then
 (some false)
 else
 ((D_laws_heldInt64S fu xs286 1).bind fun x358 =>
 bif decide (x358 < 0) then
 (some false)
 else
 (bif !decide (x358 = x285) then
 (some false)
 else
 (some true)))))))))
end Go.Proofs.Ytocaepkkaihiiaa
