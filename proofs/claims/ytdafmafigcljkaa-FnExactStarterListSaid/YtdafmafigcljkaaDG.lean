/-
  What functions of the program compute, printed by a program. No condition.
-/
import Derived.Test.YtdafmafigcljkaaDE
namespace Go.Proofs.Ytdafmafigcljkaa
open Go Am
set_option linter.unusedVariables false
def D_spec_l03Own_s0 (fu : Nat) (a0 : List (List Int)) : ((List (List Int)) × Int) → Option (Lo ((List (List Int)) × Int) (List (List Int))) := fun (rs194, x196) =>
 bif decide (x196 < ((a0.length : Nat) : Int)) then
 (chk (inR x196 a0.length) <|
 (D_spec_l01Own fu (rw_ a0 x196.toNat)).bind fun xs262 =>
 chk (rs194.length + 1 ≤ 4294967296) <|
 chk (in64 (x196 + 1)) <|
 some (.go ((rs194 ++ [xs262]), x196 + 1)))
 else
 (some (.out rs194))
def D_spec_l03Own (fu : Nat) (a0 : List (List Int)) : Option (List (List Int)) :=
 (loopF (D_spec_l03Own_s0 fu a0) fu ([], 0)).bind fun rs240 =>
 some rs240
def D_spec_StarterList_s0 (fu : Nat) (rss136 : List (List (List Int))) : ((List (List (List Int))) × Int) → Option (Lo ((List (List (List Int))) × Int) (List (List (List Int)))) := fun (rss271, x273) =>
 bif decide (x273 < ((rss136.length : Nat) : Int)) then
 (chk (inR x273 rss136.length) <|
 (D_spec_l03Own fu (rw3 rss136 x273.toNat)).bind fun rs353 =>
 chk (rss271.length + 1 ≤ 4294967296) <|
 chk (in64 (x273 + 1)) <|
 some (.go ((rss271 ++ [rs353]), x273 + 1)))
 else
 (some (.out rss271))
def D_spec_StarterList (fu : Nat) (a0 : Int) : Option ((List (List (List Int))) × Int) :=
 (D_spec_l03Modulus fu a0).bind fun b100 =>
 bif !b100 then
 (some ([], 2))
 else
 (bif decide (9 < a0) then
 (some ([], 3))
 else
 ((D_spec_l03Search fu a0 [] false 1073741824).bind fun rss136 =>
 (loopF (D_spec_StarterList_s0 fu rss136) fu ([], 0)).bind fun rss327 =>
 some (rss327, 0)))
end Go.Proofs.Ytdafmafigcljkaa
