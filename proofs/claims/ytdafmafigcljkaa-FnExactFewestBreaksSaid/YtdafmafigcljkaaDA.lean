/-
  What functions of the program compute, printed by a program. No condition.
-/
import Derived.Test.YtdafmafigcljkaaK5
namespace Go.Proofs.Ytdafmafigcljkaa
open Go Am
set_option linter.unusedVariables false
def D_spec_l01In (fu : Nat) (a0 : Int) (a1 : Int) (a2 : Int) : Option Bool :=
 some ((decide (a1 ≤ a0)) && (decide (a0 ≤ a2)))
def D_impl_between (fu : Nat) (a0 : Int) (a1 : Int) (a2 : Int) : Option Bool :=
 some ((decide (a1 ≤ a0)) && (decide (a0 ≤ a2)))
def D_impl_isModulus (fu : Nat) (a0 : Int) : Option Bool :=
 ((D_impl_between fu a0 3 13).bind fun b111 =>
 bif b111 then
 (some (decide (a0.tmod 2 = 1)))
 else
 (some false)).bind fun b107 =>
 some b107
def D_spec_l03Modulus (fu : Nat) (a0 : Int) : Option Bool :=
 ((D_spec_l01In fu a0 3 13).bind fun b111 =>
 bif b111 then
 (some (decide (a0.tmod 2 = 1)))
 else
 (some false)).bind fun b107 =>
 some b107
def D_spec_l03Mod (fu : Nat) (a0 : Int) (a1 : Int) : Option Int :=
 chk ((a1 : Int) ≠ 0) <|
 chk (in64 (a0.tmod a1 + a1)) <|
 chk ((a1 : Int) ≠ 0) <|
 some ((a0.tmod a1 + a1).tmod a1)
def D_spec_l03Sums_s0 (fu : Nat) (a0 : Int) (a1 : List (List Int)) : ((List Int) × Int) → Option (Lo ((List Int) × Int) (List Int)) := fun (xs193, x194) =>
 bif decide (x194 < ((a1.length : Nat) : Int)) then
 (chk (inR x194 a1.length) <|
 chk (inR 0 ((rw_ a1 x194.toNat).length)) <|
 chk (inR x194 a1.length) <|
 chk (inR 1 ((rw_ a1 x194.toNat).length)) <|
 chk (in64 (rd (rw_ a1 x194.toNat) 0 + (rd (rw_ a1 x194.toNat) 1))) <|
 chk ((a0 : Int) ≠ 0) <|
 chk (xs193.length + 1 ≤ 4294967296) <|
 chk (in64 (x194 + 1)) <|
 some (.go ((xs193 ++ [(rd (rw_ a1 x194.toNat) 0 + (rd (rw_ a1 x194.toNat) 1)).tmod a0]), x194 + 1)))
 else
 (some (.out xs193))
def D_spec_l03Sums (fu : Nat) (a0 : Int) (a1 : List (List Int)) : Option (List Int) :=
 (loopF (D_spec_l03Sums_s0 fu a0 a1) fu ([], 0)).bind fun xs238 =>
 some xs238
def D_impl_sums_s0 (fu : Nat) (a0 : Int) (a1 : List (List Int)) : ((List Int) × Int) → Option (Lo ((List Int) × Int) (List Int)) := fun (xs181, x182) =>
 bif decide (x182 < ((a1.length : Nat) : Int)) then
 (chk (inR x182 a1.length) <|
 chk (inR 0 ((rw_ a1 x182.toNat).length)) <|
 chk (inR 1 ((rw_ a1 x182.toNat).length)) <|
 chk (in64 (rd (rw_ a1 x182.toNat) 0 + (rd (rw_ a1 x182.toNat) 1))) <|
 chk ((a0 : Int) ≠ 0) <|
 chk (xs181.length + 1 ≤ 4294967296) <|
 chk (in64 (x182 + 1)) <|
 some (.go ((xs181 ++ [(rd (rw_ a1 x182.toNat) 0 + (rd (rw_ a1 x182.toNat) 1)).tmod a0]), x182 + 1)))
 else
 (some (.out xs181))
def D_impl_sums (fu : Nat) (a0 : Int) (a1 : List (List Int)) : Option (List Int) :=
 (loopF (D_impl_sums_s0 fu a0 a1) fu ([], 0)).bind fun xs220 =>
 some xs220
def D_spec_l01Own (fu : Nat) (a0 : List Int) : Option (List Int) :=
 chk (0 + a0.length ≤ 4294967296) <|
 some a0
end Go.Proofs.Ytdafmafigcljkaa
