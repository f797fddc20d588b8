/-
  What functions of the program compute, printed by a program. No condition.
-/
import Derived.Test.YtdafmafigcljkaaDF
import Derived.Test.YtdafmafigcljkaaDG
import Derived.Test.YtdafmafigcljkaaDN
namespace Go.Proofs.Ytdafmafigcljkaa
open Go Am
set_option linter.unusedVariables false
def D_laws_FnExactStarterList (fu : Nat) (a0 : Int) : Option Bool :=
 (D_spec_StarterList fu a0).bind fun (rss100, x101) =>
 (D_impl_StarterList fu a0).bind fun (rss115, x116) =>
 ((D_laws_eqInt64SSS fu rss115 rss100).bind fun b143 =>
 bif !b143 then
 (some true)
 else
 (some (!decide (x116 = x101)))).bind fun b139 =>
 bif b139 then
 (some false)
 else
 ((D_laws_markInt64SSS fu rss115 1).bind fun (x166, rss167) =>
 (D_laws_heldInt64SSS fu rss167 1).bind fun x178 =>
 bif decide (x178 < 0) then
 (some false)
 else
 (bif !decide (x178 = x166) then
 (some false)
 else
 ((D_impl_StarterList fu a0).bind fun (rss188, x189) =>
 ((D_laws_eqInt64SSS fu rss188 rss100).bind fun b215 =>
 bif !b215 then
 (some true)
 else
 (some (!decide (x189 = x101)))).bind fun b211 =>
 bif b211 then
 (some false)
 else
 ((D_laws_heldInt64SSS fu rss167 1).bind fun x234 =>
 bif decide (x234 < 0) then
 (some false)
 else
 (bif !decide (x234 = x166) then
 (some false)
 else
 (some true))))))
end Go.Proofs.Ytdafmafigcljkaa
