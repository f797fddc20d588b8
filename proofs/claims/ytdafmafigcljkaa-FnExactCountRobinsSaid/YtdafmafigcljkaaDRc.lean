/-
  What functions of the program compute, printed by a program. No condition.
-/
import Derived.Test.YtdafmafigcljkaaDRa
namespace Go.Proofs.Ytdafmafigcljkaa
open Go Am
set_option linter.unusedVariables false
def D_impl_countRobins_1 (self_impl_countRobins : Int → Int → Nat → (List (List Int)) → Option (Int × (List (List Int)))) (fu : Nat) (a0 : List Int) (n0_0 : Int) (k_n2 : Nat) (n2 : List (List Int)) (n3_0 : Int) (n4_0 : Int) : Option (Bool × (List (List Int)) × Int) :=
 bif decide (rd a0 0 = n0_0) then
 ((D_impl_mark fu n2 a0 1).bind fun rs108 =>
 chk (in64 (n0_0 + 1)) <|
 (self_impl_countRobins n4_0 (n0_0 + 1) k_n2 rs108).bind fun (x124, rs125) =>
 chk (in64 (n3_0 + x124)) <|
 (D_impl_mark fu rs125 a0 (-1)).bind fun rs143 =>
 some (true, rs143, n3_0 + x124))
 else
 (some (true, n2, n3_0))
def D_impl_rounds_1__impl_countRobins_1_s0 (fu : Nat) (n0_0 : Int) (n1 : List Int) : Int → Option (Lo Int Int) := fun x245 =>
 (bif decide (x245 < n0_0) then
 (chk (inR x245 14) <|
 some (!decide (rd n1 x245.toNat = x245)))
 else
 (some false)).bind fun b350 =>
 bif b350 then
 (chk (in64 (x245 + 1)) <|
 some (.go (x245 + 1)))
 else
 (some (.out x245))
def D_impl_rounds_1__impl_countRobins_1_s1 (self : Int → Int → (List Int) → Int → Nat → (List (List Int)) → Int → Int → Option (Bool × (List Int) × (List (List Int)) × Int)) (fu : Nat) (n0_0 : Int) (n3_0 : Int) (k_n5 : Nat) (n7_0 : Int) (x313 : Int) : ((List Int) × (List (List Int)) × Int × Int) → Option (Lo ((List Int) × (List (List Int)) × Int × Int) (((List Int) × (List (List Int)) × Int) ⊕ (Bool × (List Int) × (List (List Int)) × Int))) := fun (xs745, rs750, x753, x757) =>
 bif decide (x757 < n0_0) then
 ((chk (inR x757 14) <|
 bif !decide (rd xs745 x757.toNat = x757) then
 (some true)
 else
 (chk (inR x313 k_n5) <|
 chk (inR x757 ((rw_ rs750 x313.toNat).length)) <|
 some (decide (0 < rd (rw_ rs750 x313.toNat) x757.toNat)))).bind fun b950 =>
 bif b950 then
 (chk (in64 (x757 + 1)) <|
 some (.go (xs745, rs750, x753, x757 + 1)))
 else
 ((D_impl_Round_meet fu xs745 x313 x757).bind fun xs1010 =>
 chk (in64 (x313 + 1)) <|
 (self (x313 + 1) n0_0 xs1010 n3_0 k_n5 rs750 x753 n7_0).bind fun (b1032, xs1033, rs1034, x1035) =>
 bif !b1032 then
 (some (.out (.inr (false, xs1033, rs1034, x1035))))
 else
 (chk (inR x313 14) <|
 chk (inR x757 14) <|
 chk (in64 (x757 + 1)) <|
 some (.go (((xs1033.set x313.toNat x313).set x757.toNat x757), rs1034, x1035, x757 + 1)))))
 else
 (some (.out (.inl (xs745, rs750, x753))))
def D_impl_rounds_1__impl_countRobins_1 (self_impl_countRobins : Int → Int → Nat → (List (List Int)) → Option (Int × (List (List Int)))) : Nat → Int → Int → (List Int) → Int → Nat → (List (List Int)) → Int → Int → Option (Bool × (List Int) × (List (List Int)) × Int)
 | 0, _, _, _, _, _, _, _, _ => none
 | fu + 1, a0, n0_0, n1, n3_0, k_n5, n5, n6_0, n7_0 =>
 (loopF (D_impl_rounds_1__impl_countRobins_1_s0 fu n0_0 n1) fu a0).bind fun x313 =>
 bif decide (x313 = n0_0) then
 ((D_impl_countRobins_1 self_impl_countRobins fu n1 n3_0 k_n5 n5 n6_0 n7_0).bind fun (b424, rs425, x426) =>
 some (b424, n1, rs425, x426))
 else
 (chk (in64 (x313 + 1)) <|
 (loopF (D_impl_rounds_1__impl_countRobins_1_s1 (D_impl_rounds_1__impl_countRobins_1 self_impl_countRobins fu) fu n0_0 n3_0 k_n5 n7_0 x313) fu (n1, n5, n6_0, x313 + 1)).bind fun
 | .inl (xs892, rs897, x900) => (some (true, xs892, rs897, x900))
 | .inr v1118 => some v1118)
def D_impl_rounds__impl_countRobins_1 (self_impl_countRobins : Int → Int → Nat → (List (List Int)) → Option (Int × (List (List Int)))) (fu : Nat) (a0 : Int) (k_n0 : Nat) (n0 : List (List Int)) (n1_0 : Int) (n3_0 : Int) (n4_0 : Int) : Option (Bool × (List (List Int)) × Int) :=
 (D_impl_free fu a0).bind fun xs112 =>
 (D_impl_rounds_1__impl_countRobins_1 self_impl_countRobins fu 0 a0 xs112 n1_0 k_n0 n0 n3_0 n4_0).bind fun (b144, xs145, rs146, x147) =>
 some (b144, rs146, x147)
def D_impl_countRobins : Nat → Int → Int → Nat → (List (List Int)) → Option (Int × (List (List Int)))
 | 0, _, _, _, _ => none
 | fu + 1, a0, a2, k_n0, n0 =>
 bif decide (a2 = a0) then
 (some (1, n0))
 else
 ((D_impl_rounds__impl_countRobins_1 (D_impl_countRobins fu) fu a0 k_n0 n0 a2 0 a0).bind fun (b133, rs134, x135) =>
 some (x135, rs134))
def D_impl_CountRobins (fu : Nat) (a0 : Int) : Option (Int × Int) :=
 (D_impl_between fu a0 2 6).bind fun b100 =>
 bif !b100 then
 (some (0, 2))
 else
 (chk (in64 (a0 + (a0.tmod 2))) <|
 (D_impl_square fu (a0 + (a0.tmod 2))).bind fun rs110 =>
 (D_impl_countRobins fu (a0 + (a0.tmod 2)) 1 rs110.length rs110).bind fun (x126, rs127) =>
 some (x126, 0))
end Go.Proofs.Ytdafmafigcljkaa
