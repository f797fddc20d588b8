/-
  What functions of the program compute, printed by a program. No condition.
-/
import Derived.Test.YtfiilgnebmidbaaDoorDB
import Derived.Test.YtfiilgnebmidbaaDoorDStr
namespace Go.Proofs.YtfiilgnebmidbaaDoor
open Go Am
set_option linter.unusedVariables false
def D_spec_l01Dec : Nat → Int → Option ByteArray
 | 0, _ => none
 | fu + 1, a0 =>
 bif decide (a0 < 0) then
 (chk (in64 (0 - a0)) <|
 ((D_spec_l01Dec fu) (0 - a0)).bind fun s104 =>
 chk ((⟨#[45]⟩ : ByteArray).size + (s104 : ByteArray).size ≤ 9223372036854775807) <|
 some ((⟨#[45]⟩ : ByteArray) ++ s104))
 else
 (bif decide (a0 < 10) then
 (chk (in64 (48 + a0)) <|
 chk (0 ≤ (48 + a0) ∧ (48 + a0) < 256) <|
 some (strOfNums [48 + a0]))
 else
 (chk ((10 : Int) ≠ 0 ∧ in64 (a0.tdiv 10)) <|
 ((D_spec_l01Dec fu) (a0.tdiv 10)).bind fun s124 =>
 chk (in64 (48 + (a0.tmod 10))) <|
 chk (0 ≤ (48 + (a0.tmod 10)) ∧ (48 + (a0.tmod 10)) < 256) <|
 chk ((s124 : ByteArray).size + (strOfNums [48 + (a0.tmod 10)] : ByteArray).size ≤ 9223372036854775807) <|
 some (s124 ++ (strOfNums [48 + (a0.tmod 10)]))))
def D_impl_decimal (fu : Nat) (a0 : Int) : Option ByteArray :=
 (D_strconv_FormatInt fu a0 10).bind fun s100 =>
 some s100
end Go.Proofs.YtfiilgnebmidbaaDoor
