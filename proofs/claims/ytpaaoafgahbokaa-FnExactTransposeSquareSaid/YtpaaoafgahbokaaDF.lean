/-
  What functions of the program compute, printed by a program. No condition.
-/
import Derived.Test.YtpaaoafgahbokaaDC
import Derived.Test.YtpaaoafgahbokaaDE
namespace Go.Proofs.Ytpaaoafgahbokaa
open Go Am
set_option linter.unusedVariables false
def D_spec_l04Transposed_s1 (fu : Nat) (a0_0 : Int) (a0_1 : List (List Int)) (x541 : Int) : ((List Int) × Int) → Option (Lo ((List Int) × Int) (List Int)) := fun (xs848, x849) =>
 bif decide (x849 < a0_0) then
 (chk (inR x849 a0_1.length) <|
 chk (inR x541 ((rw_ a0_1 x849.toNat).length)) <|
 chk (xs848.length + 1 ≤ 4294967296) <|
 chk (in64 (x849 + 1)) <|
 some (.go ((xs848 ++ [rd (rw_ a0_1 x849.toNat) x541.toNat]), x849 + 1)))
 else
 (some (.out xs848))
def D_spec_l04Transposed_s0 (fu : Nat) (a0_0 : Int) (a0_1 : List (List Int)) : ((List (List Int)) × Int) → Option (Lo ((List (List Int)) × Int) (List (List Int))) := fun (rs539, x541) =>
 bif decide (x541 < a0_0) then
 ((loopF (D_spec_l04Transposed_s1 fu a0_0 a0_1 x541) fu ([], 0)).bind fun xs885 =>
 chk (rs539.length + 1 ≤ 4294967296) <|
 chk (in64 (x541 + 1)) <|
 some (.go ((rs539 ++ [xs885]), x541 + 1)))
 else
 (some (.out rs539))
def D_spec_l04Transposed (fu : Nat) (a0_0 : Int) (a0_1 : List (List Int)) : Option (Int × (List (List Int))) :=
 (loopF (D_spec_l04Transposed_s0 fu a0_0 a0_1) fu ([], 0)).bind fun rs748 =>
 some (a0_0, rs748)
def D_spec_TransposeSquare (fu : Nat) (a0_0 : Int) (a0_1 : List (List Int)) : Option (Int × (List (List Int)) × Int) :=
 (D_spec_l04Is fu a0_0 a0_1).bind fun b108 =>
 bif !b108 then
 (some (0, [], 1))
 else
 ((D_spec_l04Transposed fu a0_0 a0_1).bind fun (x122, rs123) =>
 some (x122, rs123, 0))
def D_impl_square_s0 (fu : Nat) (a0 : Int) : ((List (List Int)) × Int) → Option (Lo ((List (List Int)) × Int) (List (List Int))) := fun (rs172, x174) =>
 bif decide (x174 < a0) then
 (chk (0 ≤ a0 ∧ a0 ≤ 4294967296) <|
 chk (rs172.length + 1 ≤ 4294967296) <|
 chk (in64 (x174 + 1)) <|
 some (.go ((rs172 ++ [(List.replicate a0.toNat 0)]), x174 + 1)))
 else
 (some (.out rs172))
def D_impl_square (fu : Nat) (a0 : Int) : Option (List (List Int)) :=
 (loopF (D_impl_square_s0 fu a0) fu ([], 0)).bind fun rs207 =>
 some rs207
def D_impl_Square_turned_s1 (fu : Nat) (a0_1 : List (List Int)) (rs108 : List (List Int)) (x424 : Int) : ((List (List Int)) × Int) → Option (Lo ((List (List Int)) × Int) (List (List Int))) := fun (rs648, x650) =>
 bif decide (x650 < (((rw_ a0_1 x424.toNat).length : Nat) : Int)) then
 (chk (inR x650 ((rw_ a0_1 x424.toNat).length)) <|
 chk (inR x650 rs108.length) <|
 chk (inR x424 ((rw_ rs648 x650.toNat).length)) <|
 chk (in64 (x650 + 1)) <|
 some (.go ((rs648.set x650.toNat ((rw_ rs648 x650.toNat).set x424.toNat (rd (rw_ a0_1 x424.toNat) x650.toNat))), x650 + 1)))
 else
 (some (.out rs648))
def D_impl_Square_turned_s0 (fu : Nat) (a0_1 : List (List Int)) (rs108 : List (List Int)) : ((List (List Int)) × Int) → Option (Lo ((List (List Int)) × Int) (List (List Int))) := fun (rs422, x424) =>
 bif decide (x424 < ((a0_1.length : Nat) : Int)) then
 (chk (inR x424 a0_1.length) <|
 (loopF (D_impl_Square_turned_s1 fu a0_1 rs108 x424) fu (rs422, 0)).bind fun rs675 =>
 chk (in64 (x424 + 1)) <|
 some (.go (rs675, x424 + 1)))
 else
 (some (.out rs422))
def D_impl_Square_turned (fu : Nat) (a0_0 : Int) (a0_1 : List (List Int)) : Option (Int × (List (List Int))) :=
 (D_impl_square fu a0_0).bind fun rs108 =>
 (loopF (D_impl_Square_turned_s0 fu a0_1 rs108) fu (rs108, 0)).bind fun rs569 =>
 some (a0_0, rs569)
def D_impl_TransposeSquare (fu : Nat) (a0_0 : Int) (a0_1 : List (List Int)) : Option (Int × (List (List Int)) × Int) :=
 (D_impl_IsSquare fu a0_0 a0_1).bind fun b108 =>
 bif !b108 then
 (some (0, [], 1))
 else
 ((D_impl_Square_turned fu a0_0 a0_1).bind fun (x122, rs123) =>
 some (x122, rs123, 0))
def D_spec_l04Rows_s1 (fu : Nat) (a0_1 : List (List Int)) (x969 : Int) : ((List Int) × Int) → Option (Lo ((List Int) × Int) ((List Int) ⊕ (Int × (List (List Int)) × Bool))) := fun (xs1600, x1601) =>
 chk (inR x969 a0_1.length) <|
 bif decide (x1601 < (((rw_ a0_1 x969.toNat).length : Nat) : Int)) then
 (chk (inR x969 a0_1.length) <|
 chk (inR x1601 ((rw_ a0_1 x969.toNat).length)) <|
 bif decide (0 ≤ rd (rw_ a0_1 x969.toNat) x1601.toNat) then
 (chk ((14 : Int) ≠ 0 ∧ in64 ((rd (rw_ a0_1 x969.toNat) x1601.toNat).tdiv 14)) <|
 (chk (inR ((rd (rw_ a0_1 x969.toNat) x1601.toNat).tdiv 14) 14) <|
 bif !decide (rd xs1600 (((rd (rw_ a0_1 x969.toNat) x1601.toNat).tdiv 14).toNat) = (rd (rw_ a0_1 x969.toNat) x1601.toNat).tdiv 14) then
 (some true)
 else
 (chk (inR ((rd (rw_ a0_1 x969.toNat) x1601.toNat).tmod 14) 14) <|
 some (!decide (rd xs1600 (((rd (rw_ a0_1 x969.toNat) x1601.toNat).tmod 14).toNat) = (rd (rw_ a0_1 x969.toNat) x1601.toNat).tmod 14)))).bind fun b1736 =>
 bif b1736 then
 (some (.out (.inr (0, [], false))))
 else
 (chk (inR ((rd (rw_ a0_1 x969.toNat) x1601.toNat).tdiv 14) 14) <|
 chk (inR ((rd (rw_ a0_1 x969.toNat) x1601.toNat).tmod 14) 14) <|
 chk (in64 (x1601 + 1)) <|
 some (.go (((xs1600.set (((rd (rw_ a0_1 x969.toNat) x1601.toNat).tdiv 14).toNat) ((rd (rw_ a0_1 x969.toNat) x1601.toNat).tmod 14)).set (((rd (rw_ a0_1 x969.toNat) x1601.toNat).tmod 14).toNat) ((rd (rw_ a0_1 x969.toNat) x1601.toNat).tdiv 14)), x1601 + 1))))
 else
 (chk (in64 (x1601 + 1)) <|
 some (.go (xs1600, x1601 + 1))))
 else
 (some (.out (.inl xs1600)))
def D_spec_l04Rows_s0 (fu : Nat) (a0_0 : Int) (a0_1 : List (List Int)) : ((List (List Int)) × Int) → Option (Lo ((List (List Int)) × Int) ((List (List Int)) ⊕ (Int × (List (List Int)) × Bool))) := fun (rs968, x969) =>
 bif decide (x969 < ((a0_1.length : Nat) : Int)) then
 (chk (in64 (a0_0 + 1)) <|
 (D_spec_l01Free fu (a0_0 + 1)).bind fun xs1409 =>
 (loopF (D_spec_l04Rows_s1 fu a0_1 x969) fu (xs1409, 0)).bind fun
 | .inl xs1688 => (chk (rs968.length + 1 ≤ 4294967296) <|
 chk (in64 (x969 + 1)) <|
 some (.go ((rs968 ++ [xs1688]), x969 + 1)))
 | .inr v1827 => some (.out (.inr v1827)))
 else
 (some (.out (.inl rs968)))
def D_spec_l04Rows (fu : Nat) (a0_0 : Int) (a0_1 : List (List Int)) : Option (Int × (List (List Int)) × Bool) :=
 chk (in64 (a0_0 + 1)) <|
 (loopF (D_spec_l04Rows_s0 fu a0_0 a0_1) fu ([], 0)).bind fun
 | .inl rs1390 => (some (a0_0 + 1, rs1390, true))
 | .inr v1842 => some v1842
def D_spec_RowsOf (fu : Nat) (a0_0 : Int) (a0_1 : List (List Int)) : Option (Int × (List (List Int)) × Int) :=
 (D_spec_l04Is fu a0_0 a0_1).bind fun b108 =>
 bif !b108 then
 (some (0, [], 1))
 else
 ((D_spec_l04Rows fu a0_0 a0_1).bind fun (x121, rs122, b123) =>
 bif !b123 then
 (some (0, [], 5))
 else
 (some (x121, rs122, 0)))
def D_impl_Square_rows_s1 (fu : Nat) (a0_1 : List (List Int)) (x641 : Int) : ((List (List Int)) × Int) → Option (Lo ((List (List Int)) × Int) (List (List Int))) := fun (rs1023, x1025) =>
 bif decide (x1025 < (((rw_ a0_1 x641.toNat).length : Nat) : Int)) then
 (chk (inR x1025 ((rw_ a0_1 x641.toNat).length)) <|
 bif decide (0 ≤ rd (rw_ a0_1 x641.toNat) x1025.toNat) then
 (chk ((14 : Int) ≠ 0 ∧ in64 ((rd (rw_ a0_1 x641.toNat) x1025.toNat).tdiv 14)) <|
 chk (rs1023.length + 1 ≤ 4294967296) <|
 chk (in64 (x1025 + 1)) <|
 some (.go ((rs1023 ++ [[(rd (rw_ a0_1 x641.toNat) x1025.toNat).tdiv 14, (rd (rw_ a0_1 x641.toNat) x1025.toNat).tmod 14]]), x1025 + 1)))
 else
 (chk (in64 (x1025 + 1)) <|
 some (.go (rs1023, x1025 + 1))))
 else
 (some (.out rs1023))
def D_impl_Square_rows_s0 (fu : Nat) (a0_0 : Int) (a0_1 : List (List Int)) : ((List (List Int)) × Int) → Option (Lo ((List (List Int)) × Int) ((List (List Int)) ⊕ (Int × (List (List Int)) × Int))) := fun (rs640, x641) =>
 bif decide (x641 < ((a0_1.length : Nat) : Int)) then
 (chk (inR x641 a0_1.length) <|
 (loopF (D_impl_Square_rows_s1 fu a0_1 x641) fu ([], 0)).bind fun rs1068 =>
 (D_impl_RoundOf fu (a0_0 + 1) rs1068).bind fun (xs1138, x1139) =>
 bif !decide (x1139 = 0) then
 (some (.out (.inr (0, [], 5))))
 else
 (chk (rs640.length + 1 ≤ 4294967296) <|
 chk (in64 (x641 + 1)) <|
 some (.go ((rs640 ++ [xs1138]), x641 + 1))))
 else
 (some (.out (.inl rs640)))
def D_impl_Square_rows (fu : Nat) (a0_0 : Int) (a0_1 : List (List Int)) : Option (Int × (List (List Int)) × Int) :=
 chk (in64 (a0_0 + 1)) <|
 (loopF (D_impl_Square_rows_s0 fu a0_0 a0_1) fu ([], 0)).bind fun
 | .inl rs905 => (some (a0_0 + 1, rs905, 0))
 | .inr v1195 => some v1195
def D_impl_RowsOf (fu : Nat) (a0_0 : Int) (a0_1 : List (List Int)) : Option (Int × (List (List Int)) × Int) :=
 (D_impl_IsSquare fu a0_0 a0_1).bind fun b108 =>
 bif !b108 then
 (some (0, [], 1))
 else
 ((D_impl_Square_rows fu a0_0 a0_1).bind fun (x121, rs122, x123) =>
 some (x121, rs122, x123))
def D_spec_ColumnsOf (fu : Nat) (a0_0 : Int) (a0_1 : List (List Int)) : Option (Int × (List (List Int)) × Int) :=
 (D_spec_l04Is fu a0_0 a0_1).bind fun b108 =>
 bif !b108 then
 (some (0, [], 1))
 else
 ((D_spec_l04Transposed fu a0_0 a0_1).bind fun (x121, rs122) =>
 (D_spec_l04Rows fu x121 rs122).bind fun (x136, rs137, b138) =>
 bif !b138 then
 (some (0, [], 5))
 else
 (some (x136, rs137, 0)))
def D_impl_ColumnsOf (fu : Nat) (a0_0 : Int) (a0_1 : List (List Int)) : Option (Int × (List (List Int)) × Int) :=
 (D_impl_IsSquare fu a0_0 a0_1).bind fun b108 =>
 bif !b108 then
 (some (0, [], 1))
 else
 ((D_impl_Square_turned fu a0_0 a0_1).bind fun (x121, rs122) =>
 (D_impl_Square_rows fu x121 rs122).bind fun (x136, rs137, x138) =>
 some (x136, rs137, x138))
end Go.Proofs.Ytpaaoafgahbokaa
