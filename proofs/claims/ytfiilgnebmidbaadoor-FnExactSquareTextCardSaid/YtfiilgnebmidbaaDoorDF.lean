/-
  What functions of the program compute, printed by a program. No condition.
-/
import Derived.Test.YtfiilgnebmidbaaDoorDC
import Derived.Test.YtfiilgnebmidbaaDoorDD
namespace Go.Proofs.YtfiilgnebmidbaaDoor
open Go Am
set_option linter.unusedVariables false
def D_spec_l04Text_s1 (fu : Nat) (a0_1 : List (List Int)) (x742 : Int) : (ByteArray × Int) → Option (Lo (ByteArray × Int) ByteArray) := fun (s1225, x1226) =>
 chk (inR x742 a0_1.length) <|
 bif decide (x1226 < (((rw_ a0_1 x742.toNat).length : Nat) : Int)) then
 ((bif decide (0 < x1226) then
 (chk ((s1225 : ByteArray).size + ((⟨#[44]⟩ : ByteArray) : ByteArray).size ≤ 9223372036854775807) <|
 some (s1225 ++ (⟨#[44]⟩ : ByteArray)))
 else
 (some s1225)).bind fun s1319 =>
 chk (inR x742 a0_1.length) <|
 chk (inR x1226 ((rw_ a0_1 x742.toNat).length)) <|
 bif decide (0 ≤ rd (rw_ a0_1 x742.toNat) x1226.toNat) then
 (chk ((14 : Int) ≠ 0 ∧ in64 ((rd (rw_ a0_1 x742.toNat) x1226.toNat).tdiv 14)) <|
 (D_spec_l01Dec fu ((rd (rw_ a0_1 x742.toNat) x1226.toNat).tdiv 14)).bind fun s1345 =>
 chk ((s1319 : ByteArray).size + (s1345 : ByteArray).size ≤ 9223372036854775807) <|
 chk ((s1319 ++ s1345 : ByteArray).size + ((⟨#[45]⟩ : ByteArray) : ByteArray).size ≤ 9223372036854775807) <|
 (D_spec_l01Dec fu ((rd (rw_ a0_1 x742.toNat) x1226.toNat).tmod 14)).bind fun s1353 =>
 chk (((s1319 ++ s1345) ++ (⟨#[45]⟩ : ByteArray) : ByteArray).size + (s1353 : ByteArray).size ≤ 9223372036854775807) <|
 chk (in64 (x1226 + 1)) <|
 some (.go (((s1319 ++ s1345) ++ (⟨#[45]⟩ : ByteArray)) ++ s1353, x1226 + 1)))
 else
 (chk ((s1319 : ByteArray).size + ((⟨#[46]⟩ : ByteArray) : ByteArray).size ≤ 9223372036854775807) <|
 chk (in64 (x1226 + 1)) <|
 some (.go (s1319 ++ (⟨#[46]⟩ : ByteArray), x1226 + 1))))
 else
 (some (.out s1225))
def D_spec_l04Text_s0 (fu : Nat) (a0_1 : List (List Int)) : (ByteArray × Int) → Option (Lo (ByteArray × Int) ByteArray) := fun (s741, x742) =>
 bif decide (x742 < ((a0_1.length : Nat) : Int)) then
 ((bif decide (0 < x742) then
 (chk ((s741 : ByteArray).size + ((⟨#[59]⟩ : ByteArray) : ByteArray).size ≤ 9223372036854775807) <|
 some (s741 ++ (⟨#[59]⟩ : ByteArray)))
 else
 (some s741)).bind fun s1076 =>
 (loopF (D_spec_l04Text_s1 fu a0_1 x742) fu (s1076, 0)).bind fun s1293 =>
 chk (in64 (x742 + 1)) <|
 some (.go (s1293, x742 + 1)))
 else
 (some (.out s741))
def D_spec_l04Text (fu : Nat) (a0_0 : Int) (a0_1 : List (List Int)) : Option ByteArray :=
 (D_spec_l01Dec fu a0_0).bind fun s104 =>
 chk ((s104 : ByteArray).size + ((⟨#[58]⟩ : ByteArray) : ByteArray).size ≤ 9223372036854775807) <|
 (loopF (D_spec_l04Text_s0 fu a0_1) fu (s104 ++ (⟨#[58]⟩ : ByteArray), 0)).bind fun s1056 =>
 some s1056
def D_impl_Square_text_s1 (fu : Nat) (a0_1 : List (List Int)) (x707 : Int) : ((List ByteArray) × Int) → Option (Lo ((List ByteArray) × Int) (List ByteArray)) := fun (ss1151, x1152) =>
 bif decide (x1152 < (((rw_ a0_1 x707.toNat).length : Nat) : Int)) then
 (chk (inR x1152 ((rw_ a0_1 x707.toNat).length)) <|
 bif decide (rd (rw_ a0_1 x707.toNat) x1152.toNat < 0) then
 (chk (ss1151.length + 1 ≤ 4294967296) <|
 chk (in64 (x1152 + 1)) <|
 some (.go ((ss1151 ++ [(⟨#[46]⟩ : ByteArray)]), x1152 + 1)))
 else
 (chk ((14 : Int) ≠ 0 ∧ in64 ((rd (rw_ a0_1 x707.toNat) x1152.toNat).tdiv 14)) <|
 (D_impl_decimal fu ((rd (rw_ a0_1 x707.toNat) x1152.toNat).tdiv 14)).bind fun s1252 =>
 chk ((s1252 : ByteArray).size + ((⟨#[45]⟩ : ByteArray) : ByteArray).size ≤ 9223372036854775807) <|
 (D_impl_decimal fu ((rd (rw_ a0_1 x707.toNat) x1152.toNat).tmod 14)).bind fun s1258 =>
 chk ((s1252 ++ (⟨#[45]⟩ : ByteArray) : ByteArray).size + (s1258 : ByteArray).size ≤ 9223372036854775807) <|
 chk (ss1151.length + 1 ≤ 4294967296) <|
 chk (in64 (x1152 + 1)) <|
 some (.go ((ss1151 ++ [(s1252 ++ (⟨#[45]⟩ : ByteArray)) ++ s1258]), x1152 + 1))))
 else
 (some (.out ss1151))
def D_impl_Square_text_s0 (fu : Nat) (a0_1 : List (List Int)) : ((List ByteArray) × Int) → Option (Lo ((List ByteArray) × Int) (List ByteArray)) := fun (ss706, x707) =>
 bif decide (x707 < ((a0_1.length : Nat) : Int)) then
 (chk (inR x707 a0_1.length) <|
 (loopF (D_impl_Square_text_s1 fu a0_1 x707) fu ([], 0)).bind fun ss1211 =>
 (D_strings_Join fu ss1211 (⟨#[44]⟩ : ByteArray)).bind fun s1289 =>
 chk (ss706.length + 1 ≤ 4294967296) <|
 chk (in64 (x707 + 1)) <|
 some (.go ((ss706 ++ [s1289]), x707 + 1)))
 else
 (some (.out ss706))
def D_impl_Square_text (fu : Nat) (a0_0 : Int) (a0_1 : List (List Int)) : Option ByteArray :=
 (loopF (D_impl_Square_text_s0 fu a0_1) fu ([], 0)).bind fun ss1005 =>
 (D_impl_decimal fu a0_0).bind fun s1317 =>
 chk ((s1317 : ByteArray).size + ((⟨#[58]⟩ : ByteArray) : ByteArray).size ≤ 9223372036854775807) <|
 (D_strings_Join fu ss1005 (⟨#[59]⟩ : ByteArray)).bind fun s1323 =>
 chk ((s1317 ++ (⟨#[58]⟩ : ByteArray) : ByteArray).size + (s1323 : ByteArray).size ≤ 9223372036854775807) <|
 some ((s1317 ++ (⟨#[58]⟩ : ByteArray)) ++ s1323)
def D_spec_SquareText (fu : Nat) (a0_0 : Int) (a0_1 : List (List Int)) : Option (ByteArray × Int) :=
 (D_spec_l04Is fu a0_0 a0_1).bind fun b104 =>
 bif !b104 then
 (some ((⟨#[]⟩ : ByteArray), 1))
 else
 ((D_spec_l04Text fu a0_0 a0_1).bind fun s112 =>
 some (s112, 0))
def D_impl_SquareText (fu : Nat) (a0_0 : Int) (a0_1 : List (List Int)) : Option (ByteArray × Int) :=
 (D_impl_IsSquare fu a0_0 a0_1).bind fun b104 =>
 bif !b104 then
 (some ((⟨#[]⟩ : ByteArray), 1))
 else
 ((D_impl_Square_text fu a0_0 a0_1).bind fun s112 =>
 some (s112, 0))
end Go.Proofs.YtfiilgnebmidbaaDoor
