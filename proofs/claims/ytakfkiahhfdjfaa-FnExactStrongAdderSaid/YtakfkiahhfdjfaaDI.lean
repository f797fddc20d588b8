/-
  What functions of the program compute, printed by a program. No condition.
-/
import Derived.Test.YtakfkiahhfdjfaaDH
import Derived.Test.YtakfkiahhfdjfaaDC
namespace Go.Proofs.Ytakfkiahhfdjfaa
open Go Am
set_option linter.unusedVariables false
def D_spec_RenumberSquare_s1 (fu : Nat) (a0_1 : List (List Int)) (a1 : List Int) (x1019 : Int) : ((List Int) × Int) → Option (Lo ((List Int) × Int) (List Int)) := fun (xs1662, x1663) =>
 chk (inR x1019 a0_1.length) <|
 bif decide (x1663 < (((rw_ a0_1 x1019.toNat).length : Nat) : Int)) then
 (chk (inR x1019 a0_1.length) <|
 chk (inR x1663 ((rw_ a0_1 x1019.toNat).length)) <|
 (bif decide (0 ≤ rd (rw_ a0_1 x1019.toNat) x1663.toNat) then
 (chk ((14 : Int) ≠ 0 ∧ in64 ((rd (rw_ a0_1 x1019.toNat) x1663.toNat).tdiv 14)) <|
 chk (inR ((rd (rw_ a0_1 x1019.toNat) x1663.toNat).tdiv 14) a1.length) <|
 chk (inR ((rd (rw_ a0_1 x1019.toNat) x1663.toNat).tmod 14) a1.length) <|
 chk (in64 (14 * (if rd a1 (((rd (rw_ a0_1 x1019.toNat) x1663.toNat).tmod 14).toNat) < rd a1 (((rd (rw_ a0_1 x1019.toNat) x1663.toNat).tdiv 14).toNat) then rd a1 (((rd (rw_ a0_1 x1019.toNat) x1663.toNat).tmod 14).toNat) else rd a1 (((rd (rw_ a0_1 x1019.toNat) x1663.toNat).tdiv 14).toNat)))) <|
 chk (in64 (14 * (if rd a1 (((rd (rw_ a0_1 x1019.toNat) x1663.toNat).tmod 14).toNat) < rd a1 (((rd (rw_ a0_1 x1019.toNat) x1663.toNat).tdiv 14).toNat) then rd a1 (((rd (rw_ a0_1 x1019.toNat) x1663.toNat).tmod 14).toNat) else rd a1 (((rd (rw_ a0_1 x1019.toNat) x1663.toNat).tdiv 14).toNat)) + (if rd a1 (((rd (rw_ a0_1 x1019.toNat) x1663.toNat).tmod 14).toNat) > rd a1 (((rd (rw_ a0_1 x1019.toNat) x1663.toNat).tdiv 14).toNat) then rd a1 (((rd (rw_ a0_1 x1019.toNat) x1663.toNat).tmod 14).toNat) else rd a1 (((rd (rw_ a0_1 x1019.toNat) x1663.toNat).tdiv 14).toNat)))) <|
 some (14 * (if rd a1 (((rd (rw_ a0_1 x1019.toNat) x1663.toNat).tmod 14).toNat) < rd a1 (((rd (rw_ a0_1 x1019.toNat) x1663.toNat).tdiv 14).toNat) then rd a1 (((rd (rw_ a0_1 x1019.toNat) x1663.toNat).tmod 14).toNat) else rd a1 (((rd (rw_ a0_1 x1019.toNat) x1663.toNat).tdiv 14).toNat)) + (if rd a1 (((rd (rw_ a0_1 x1019.toNat) x1663.toNat).tmod 14).toNat) > rd a1 (((rd (rw_ a0_1 x1019.toNat) x1663.toNat).tdiv 14).toNat) then rd a1 (((rd (rw_ a0_1 x1019.toNat) x1663.toNat).tmod 14).toNat) else rd a1 (((rd (rw_ a0_1 x1019.toNat) x1663.toNat).tdiv 14).toNat))))
 else
 (some (rd (rw_ a0_1 x1019.toNat) x1663.toNat))).bind fun x1806 =>
 chk (xs1662.length + 1 ≤ 4294967296) <|
 chk (in64 (x1663 + 1)) <|
 some (.go ((xs1662 ++ [x1806]), x1663 + 1)))
 else
 (some (.out xs1662))
def D_spec_RenumberSquare_s0 (fu : Nat) (a0_1 : List (List Int)) (a1 : List Int) : ((List (List Int)) × Int) → Option (Lo ((List (List Int)) × Int) (List (List Int))) := fun (rs1017, x1019) =>
 bif decide (x1019 < ((a0_1.length : Nat) : Int)) then
 ((loopF (D_spec_RenumberSquare_s1 fu a0_1 a1 x1019) fu ([], 0)).bind fun xs1755 =>
 chk (rs1017.length + 1 ≤ 4294967296) <|
 chk (in64 (x1019 + 1)) <|
 some (.go ((rs1017 ++ [xs1755]), x1019 + 1)))
 else
 (some (.out rs1017))
def D_spec_RenumberSquare (fu : Nat) (a0_0 : Int) (a0_1 : List (List Int)) (a1 : List Int) : Option (Int × (List (List Int)) × Int) :=
 (D_spec_l04Is fu a0_0 a0_1).bind fun b108 =>
 bif !b108 then
 (some (0, [], 1))
 else
 (chk (in64 (a0_0 + 1)) <|
 (D_spec_l01Order fu a1 (a0_0 + 1)).bind fun b124 =>
 bif !b124 then
 (some (0, [], 2))
 else
 ((loopF (D_spec_RenumberSquare_s0 fu a0_1 a1) fu ([], 0)).bind fun rs1450 =>
 some (a0_0, rs1450, 0)))
def D_impl_square_s0 (fu : Nat) (a0 : Int) : ((List (List Int)) × Int) → Option (Lo ((List (List Int)) × Int) (List (List Int))) := fun (rs172, x174) =>
 bif decide (x174 < a0) then
 (chk (0 ≤ a0 ∧ a0 ≤ 4294967296) <|
 chk (rs172.length + 1 ≤ 4294967296) <|
 chk (in64 (x174 + 1)) <|
 some (.go ((rs172 ++ [(List.replicate a0.toNat 0)]), x174 + 1)))
 else
 (some (.out rs172))
def D_impl_square (fu : Nat) (a0 : Int) : Option (List (List Int)) :=
 (loopF (D_impl_square_s0 fu a0) fu ([], 0)).bind fun rs207 =>
 some rs207
def D_impl_emptySquare_s1 (fu : Nat) (rs358 : List (List Int)) (x360 : Int) : ((List (List Int)) × Int) → Option (Lo ((List (List Int)) × Int) (List (List Int))) := fun (rs538, x541) =>
 bif decide (x541 < (((rw_ rs358 x360.toNat).length : Nat) : Int)) then
 (chk (inR x541 ((rw_ rs358 x360.toNat).length)) <|
 chk (in64 (x541 + 1)) <|
 some (.go ((rs538.set x360.toNat ((rw_ rs538 x360.toNat).set x541.toNat (-1))), x541 + 1)))
 else
 (some (.out rs538))
def D_impl_emptySquare_s0 (fu : Nat) (rs104 : List (List Int)) : ((List (List Int)) × Int) → Option (Lo ((List (List Int)) × Int) (List (List Int))) := fun (rs358, x360) =>
 bif decide (x360 < ((rs104.length : Nat) : Int)) then
 (chk (inR x360 rs104.length) <|
 (loopF (D_impl_emptySquare_s1 fu rs358 x360) fu (rs358, 0)).bind fun rs558 =>
 chk (in64 (x360 + 1)) <|
 some (.go (rs558, x360 + 1)))
 else
 (some (.out rs358))
def D_impl_emptySquare (fu : Nat) (a0 : Int) : Option (Int × (List (List Int))) :=
 (D_impl_square fu a0).bind fun rs104 =>
 (loopF (D_impl_emptySquare_s0 fu rs104) fu (rs104, 0)).bind fun rs475 =>
 some (a0, rs475)
def D_impl_Square_put (fu : Nat) (a0_0 : Int) (a0_1 : List (List Int)) (a1 : Int) (a2 : Int) (a3 : Int) (a4 : Int) : Option (List (List Int)) :=
 chk (inR a1 a0_1.length) <|
 chk (in64 (14 * (if a4 < a3 then a4 else a3))) <|
 chk (in64 (14 * (if a4 < a3 then a4 else a3) + (if a4 > a3 then a4 else a3))) <|
 chk (inR a2 ((rw_ a0_1 a1.toNat).length)) <|
 some (a0_1.set a1.toNat ((rw_ a0_1 a1.toNat).set a2.toNat (14 * (if a4 < a3 then a4 else a3) + (if a4 > a3 then a4 else a3))))
def D_impl_RenumberSquare_s1 (fu : Nat) (a0_1 : List (List Int)) (a1 : List Int) (x138 : Int) (x569 : Int) : ((List (List Int)) × Int) → Option (Lo ((List (List Int)) × Int) (List (List Int))) := fun (rs876, x878) =>
 bif decide (x878 < (((rw_ a0_1 x569.toNat).length : Nat) : Int)) then
 (chk (inR x878 ((rw_ a0_1 x569.toNat).length)) <|
 bif decide (0 ≤ rd (rw_ a0_1 x569.toNat) x878.toNat) then
 (chk ((14 : Int) ≠ 0 ∧ in64 ((rd (rw_ a0_1 x569.toNat) x878.toNat).tdiv 14)) <|
 chk (inR ((rd (rw_ a0_1 x569.toNat) x878.toNat).tdiv 14) a1.length) <|
 chk (inR ((rd (rw_ a0_1 x569.toNat) x878.toNat).tmod 14) a1.length) <|
 (D_impl_Square_put fu x138 rs876 x569 x878 (rd a1 (((rd (rw_ a0_1 x569.toNat) x878.toNat).tdiv 14).toNat)) (rd a1 (((rd (rw_ a0_1 x569.toNat) x878.toNat).tmod 14).toNat))).bind fun rs946 =>
 chk (in64 (x878 + 1)) <|
 some (.go (rs946, x878 + 1)))
 else
 (chk (in64 (x878 + 1)) <|
 some (.go (rs876, x878 + 1))))
 else
 (some (.out rs876))
def D_impl_RenumberSquare_s0 (fu : Nat) (a0_1 : List (List Int)) (a1 : List Int) (x138 : Int) : ((List (List Int)) × Int) → Option (Lo ((List (List Int)) × Int) (List (List Int))) := fun (rs567, x569) =>
 bif decide (x569 < ((a0_1.length : Nat) : Int)) then
 (chk (inR x569 a0_1.length) <|
 (loopF (D_impl_RenumberSquare_s1 fu a0_1 a1 x138 x569) fu (rs567, 0)).bind fun rs916 =>
 chk (in64 (x569 + 1)) <|
 some (.go (rs916, x569 + 1)))
 else
 (some (.out rs567))
def D_impl_RenumberSquare (fu : Nat) (a0_0 : Int) (a0_1 : List (List Int)) (a1 : List Int) : Option (Int × (List (List Int)) × Int) :=
 (D_impl_IsSquare fu a0_0 a0_1).bind fun b108 =>
 bif !b108 then
 (some (0, [], 1))
 else
 (chk (in64 (a0_0 + 1)) <|
 (D_impl_isOrder fu a1 (a0_0 + 1)).bind fun b124 =>
 bif !b124 then
 (some (0, [], 2))
 else
 ((D_impl_emptySquare fu a0_0).bind fun (x138, rs139) =>
 (loopF (D_impl_RenumberSquare_s0 fu a0_1 a1 x138) fu (rs139, 0)).bind fun rs771 =>
 some (x138, rs771, 0)))
end Go.Proofs.Ytakfkiahhfdjfaa
