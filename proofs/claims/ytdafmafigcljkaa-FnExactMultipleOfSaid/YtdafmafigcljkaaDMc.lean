/-
  What functions of the program compute, printed by a program. No condition.
-/
import Derived.Test.YtdafmafigcljkaaDMa
import Derived.Test.YtdafmafigcljkaaDMb
namespace Go.Proofs.Ytdafmafigcljkaa
open Go Am
set_option linter.unusedVariables false
def D_impl_divisor_s0 (fu : Nat) : (Int × Int) → Option (Lo (Int × Int) Int) := fun (x118, x119) =>
 bif !decide (x119 = 0) then
 (chk ((x119 : Int) ≠ 0) <|
 some (.go (x119, x118.tmod x119)))
 else
 (some (.out x118))
def D_impl_divisor (fu : Nat) (a0 : Int) (a1 : Int) : Option Int :=
 (loopF (D_impl_divisor_s0 fu) fu (a0, a1)).bind fun x128 =>
 some x128
def D_impl_MultipleOf_1 (fu : Nat) (b0_0 : Int) (b1_0 : Int) : Option Bool :=
 (chk (in64 (b1_0 - 1)) <|
 (D_impl_between fu b0_0 1 (b1_0 - 1)).bind fun b119 =>
 bif b119 then
 ((D_impl_divisor fu b0_0 b1_0).bind fun x125 =>
 some (decide (x125 = 1)))
 else
 (some false)).bind fun b113 =>
 some b113
def D_impl_MultipleOf_s0 (fu : Nat) (a0 : Int) (a1 : List (List Int)) (a2 : Int) : ((List (List Int)) × Int) → Option (Lo ((List (List Int)) × Int) (List (List Int))) := fun (rs233, x235) =>
 bif decide (x235 < ((a1.length : Nat) : Int)) then
 (chk (inR x235 a1.length) <|
 chk (inR 0 ((rw_ a1 x235.toNat).length)) <|
 chk (in64 ((rd (rw_ a1 x235.toNat) 0) * a2)) <|
 chk ((a0 : Int) ≠ 0) <|
 chk (inR 1 ((rw_ a1 x235.toNat).length)) <|
 chk (in64 ((rd (rw_ a1 x235.toNat) 1) * a2)) <|
 chk ((a0 : Int) ≠ 0) <|
 chk (rs233.length + 1 ≤ 4294967296) <|
 chk (in64 (x235 + 1)) <|
 some (.go ((rs233 ++ [[((rd (rw_ a1 x235.toNat) 0) * a2).tmod a0, ((rd (rw_ a1 x235.toNat) 1) * a2).tmod a0]]), x235 + 1)))
 else
 (some (.out rs233))
def D_impl_MultipleOf (fu : Nat) (a0 : Int) (a1 : List (List Int)) (a2 : Int) : Option ((List (List Int)) × Int) :=
 (D_impl_starterCode fu a0 (fun _ => D_impl_MultipleOf_1 fu a2 a0) [a1]).bind fun x112 =>
 bif !decide (x112 = 0) then
 (some ([], x112))
 else
 ((loopF (D_impl_MultipleOf_s0 fu a0 a1 a2) fu ([], 0)).bind fun rs284 =>
 (D_impl_sortedPairs fu rs284).bind fun rs354 =>
 some (rs354, 0))
end Go.Proofs.Ytdafmafigcljkaa
