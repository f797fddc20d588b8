/-
  What functions of the program compute, printed by a program. No condition.
-/
import Derived.Test.YtdafmafigcljkaaDRa
namespace Go.Proofs.Ytdafmafigcljkaa
open Go Am
set_option linter.unusedVariables false
def D_spec_l02Complete_s0 (fu : Nat) (bss120 : List (List Bool)) : Int → Option (Lo Int Int) := fun x185 =>
 chk (inR 0 bss120.length) <|
 chk (inR x185 ((rwB bss120 0).length)) <|
 bif rdb (rwB bss120 0) x185.toNat then
 (chk (in64 (x185 + 1)) <|
 some (.go (x185 + 1)))
 else
 (some (.out x185))
def D_spec_l02Complete_s1 (self : Int → (List (List Int)) → Bool → Option (Int × (List (List Int)) × Int)) (fu : Nat) (a0_0 : Int) (a0_1 : List (List Int)) (a1 : Bool) (rs279 : List (List Int)) : (Int × (List (List Int)) × Int × Int) → Option (Lo (Int × (List (List Int)) × Int × Int) (Int × (List (List Int)) × Int)) := fun (x581, rs582, x587, x589) =>
 bif decide (x589 < ((rs279.length : Nat) : Int)) then
 (chk (0 + a0_1.length ≤ 4294967296) <|
 chk (inR x589 rs279.length) <|
 chk (a0_1.length + 1 ≤ 4294967296) <|
 (self a0_0 (a0_1 ++ [(rw_ rs279 x589.toNat)]) a1).bind fun (x791, rs792, x793) =>
 (bif (decide (0 < x793)) && (decide (x587 = 0)) then
 (some (x791, rs792))
 else
 (some (x581, rs582))).bind fun (x830, rs831) =>
 chk (in64 (x587 + x793)) <|
 bif (!a1) && (decide (0 < x587 + x793)) then
 (some (.out (x830, rs831, x587 + x793)))
 else
 (chk (in64 (x589 + 1)) <|
 some (.go (x830, rs831, x587 + x793, x589 + 1))))
 else
 (some (.out (x581, rs582, x587)))
def D_spec_l02Complete : Nat → Int → (List (List Int)) → Bool → Option (Int × (List (List Int)) × Int)
 | 0, _, _, _ => none
 | fu + 1, a0_0, a0_1, a1 =>
 chk (in64 (a0_0 - 1)) <|
 bif decide (((a0_1.length : Nat) : Int) = a0_0 - 1) then
 (some (a0_0, a0_1, 1))
 else
 ((D_spec_l02Met fu a0_0 a0_1).bind fun bss120 =>
 (loopF (D_spec_l02Complete_s0 fu bss120) fu 1).bind fun x208 =>
 (D_spec_l01Free fu a0_0).bind fun xs251 =>
 chk (inR x208 14) <|
 (D_spec_l02Match fu a0_0 bss120 ((xs251.set 0 x208).set x208.toNat 0)).bind fun rs279 =>
 (loopF (D_spec_l02Complete_s1 (D_spec_l02Complete fu) fu a0_0 a0_1 a1 rs279) fu (0, [], 0, 0)).bind fun (x724, rs725, x730) =>
 some (x724, rs725, x730))
def D_spec_CountRobins (fu : Nat) (a0 : Int) : Option (Int × Int) :=
 (D_spec_l01In fu a0 2 6).bind fun b100 =>
 bif !b100 then
 (some (0, 2))
 else
 (chk (in64 (a0 + (a0.tmod 2))) <|
 (D_spec_l02Complete fu (a0 + (a0.tmod 2)) [] true).bind fun (x122, rs123, x124) =>
 some (x124, 0))
end Go.Proofs.Ytdafmafigcljkaa
