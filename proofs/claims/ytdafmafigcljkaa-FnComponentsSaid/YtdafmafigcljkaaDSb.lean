/-
  What functions of the program compute, printed by a program. No condition.
-/
import Derived.Test.YtdafmafigcljkaaDSa
namespace Go.Proofs.Ytdafmafigcljkaa
open Go Am
set_option linter.unusedVariables false
def D_spec_l01Near (fu : Nat) (a1 : Int) (n0_0 : List Int) (n0_1 : Int) (n0_2 : Int) : Option (Int × Int × Int) :=
 (D_spec_l01Next fu 14 n0_0 n0_1 n0_2).bind fun (x103, x104, x105) =>
 bif decide (x103 = 0) then
 (chk (in64 (a1 + 1)) <|
 (D_spec_l01Pick fu n0_0 x104 x105 4 [(-1), a1 + 1, 1099511627776, (-4611686018427387904)]).bind fun (x126, x127, x128) =>
 some (x126, x127, x128))
 else
 (chk (in64 (a1 + 1)) <|
 (D_spec_l01Next fu (a1 + 1) n0_0 x104 x105).bind fun (x148, x149, x150) =>
 some (x148, x149, x150))
def D_spec_DrawChainFrom (fu : Nat) (a0 : List Int) : Option (Int × (List Int) × (List Int) × Int) :=
 (D_spec_l01From fu a0).bind fun (x110, x111) =>
 (D_spec_l02Two fu a0).bind fun (x124, xs125, xs126) =>
 chk (in64 (x124 - 1)) <|
 (D_spec_l01Near fu (if 13 < (if 0 > x124 - 1 then 0 else x124 - 1) then 13 else (if 0 > x124 - 1 then 0 else x124 - 1)) a0 x110 x111).bind fun (x156, x157, x158) =>
 some (x124, xs125, xs126, x156)
end Go.Proofs.Ytdafmafigcljkaa
