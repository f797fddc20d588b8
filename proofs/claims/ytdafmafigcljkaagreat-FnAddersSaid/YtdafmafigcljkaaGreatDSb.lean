
/-
  What functions of the program compute, printed by a program. No condition.
-/
import Derived.Test.YtdafmafigcljkaaGreatDSa
namespace Go.Proofs.YtdafmafigcljkaaGreat
open Go Am
set_option linter.unusedVariables false
def D_spec_DrawIsAdder_s0 (fu : Nat) (a0 : List Int) (x117 : Int) (rs118 : List (List Int)) : (Int × Int × (List Int) × Int) → Option (Lo (Int × Int × (List Int) × Int) (Int × Int × (List Int))) := fun (x241, x242, xs248, x249) =>
 bif decide (x249 < ((rs118.length : Nat) : Int)) then
 (chk (in64 (x117 - 1)) <|
 (D_spec_l01Next fu (x117 - 1) a0 x241 x242).bind fun (x321, x322, x323) =>
 chk (in64 (1 + x321)) <|
 chk (xs248.length + 1 ≤ 4294967296) <|
 chk (in64 (x249 + 1)) <|
 some (.go (x322, x323, (xs248 ++ [1 + x321]), x249 + 1)))
 else
 (some (.out (x241, x242, xs248)))
def D_spec_DrawIsAdder (fu : Nat) (a0 : List Int) : Option (Int × (List (List Int)) × (List Int)) :=
 (D_spec_l01From fu a0).bind fun (x102, x103) =>
 (D_spec_l03With fu a0 x102 x103).bind fun (x117, rs118, x119, x120) =>
 (loopF (D_spec_DrawIsAdder_s0 fu a0 x117 rs118) fu (x119, x120, [], 0)).bind fun (x293, x294, xs300) =>
 (bif decide (x117 < 10) then
 ((D_spec_l01Next fu 3 a0 x293 x294).bind fun (x395, x396, x397) =>
 some (x396, x397, decide (0 < x395)))
 else
 (some (x293, x294, false))).bind fun (x381, x382, b386) =>
 (bif b386 then
 ((D_spec_l03FindAdder fu x117 rs118 []).bind fun (xs508, b509) =>
 (bif b509 then
 ((D_spec_l01Own fu xs508).bind fun xs549 =>
 some xs549)
 else
 (some xs300)).bind fun xs543 =>
 some xs543)
 else
 (some xs300)).bind fun xs497 =>
 (D_spec_l01Next fu 16 a0 x381 x382).bind fun (x585, x586, x587) =>
 (bif decide (x585 = 0) then
 (chk (xs497.length + 1 ≤ 4294967296) <|
 some (x586, x587, (xs497 ++ [1])))
 else
 ((bif decide (x585 = 1) then
 ((D_spec_l01Pick fu a0 x586 x587 3 [0, x117, (-1)]).bind fun (x774, x775, x776) =>
 chk (inR 0 xs497.length) <|
 some (x775, x776, (xs497.set 0 x774)))
 else
 (some (x586, x587, xs497))).bind fun (x755, x756, xs760) =>
 some (x755, x756, xs760))).bind fun (x694, x695, xs701) =>
 (D_spec_l03Bad fu x117 rs118 a0 x694 x695).bind fun (x810, rs811, x812, x813) =>
 some (x810, rs811, xs701)
def D_spec_DrawAreOrthogonal (fu : Nat) (a0 : List Int) : Option (Int × (List (List Int)) × (List (List Int))) :=
 (D_spec_l01From fu a0).bind fun (x102, x103) =>
 (D_spec_l03With fu a0 x102 x103).bind fun (x117, rs118, x119, x120) =>
 chk (in64 (x117 - 1)) <|
 (D_spec_l03Multiple fu x117 rs118 (x117 - 1)).bind fun rs139 =>
 (D_spec_l03Own fu rs139).bind fun rs154 =>
 (D_spec_l01Next fu 3 a0 x119 x120).bind fun (x171, x172, x173) =>
 (bif decide (x171 = 0) then
 ((D_spec_l03DrawOf fu x117 a0 x172 x173).bind fun (rs288, x289, x290) =>
 some (x289, x290, rs288))
 else
 ((bif decide (x171 = 1) then
 ((D_spec_l03Patterned fu x117).bind fun rs345 =>
 some rs345)
 else
 (some rs154)).bind fun rs338 =>
 some (x172, x173, rs338))).bind fun (x271, x272, rs278) =>
 (D_spec_l03Bad fu x117 rs118 a0 x271 x272).bind fun (x382, rs383, x384, x385) =>
 some (x382, rs383, rs278)
def D_spec_DrawFirstStrong (fu : Nat) (a0 : List Int) : Option Int :=
 (D_spec_l01From fu a0).bind fun (x102, x103) =>
 (D_spec_l01Pick fu a0 x102 x103 9 [3, 5, 7, 9, 11, 13, 1, 6, 15]).bind fun (x122, x123, x124) =>
 some x122
def D_spec_DrawCountStarters (fu : Nat) (a0 : List Int) : Option Int :=
 (D_spec_l01From fu a0).bind fun (x102, x103) =>
 (D_spec_l01Pick fu a0 x102 x103 10 [3, 5, 7, 7, 9, 9, 11, 1, 8, 15]).bind fun (x122, x123, x124) =>
 some x122
end Go.Proofs.YtdafmafigcljkaaGreat
