/-
  What functions of the program compute, printed by a program. No condition.
-/
import Derived.Test.YtpaaoafgahbokaaDF
namespace Go.Proofs.Ytpaaoafgahbokaa
open Go Am
set_option linter.unusedVariables false
def D_spec_l04Empty_s1 (fu : Nat) (a0 : Int) : ((List Int) × Int) → Option (Lo ((List Int) × Int) (List Int)) := fun (xs630, x631) =>
 bif decide (x631 < a0) then
 (chk (xs630.length + 1 ≤ 4294967296) <|
 chk (in64 (x631 + 1)) <|
 some (.go ((xs630 ++ [(-1)]), x631 + 1)))
 else
 (some (.out xs630))
def D_spec_l04Empty_s0 (fu : Nat) (a0 : Int) : ((List (List Int)) × Int) → Option (Lo ((List (List Int)) × Int) (List (List Int))) := fun (rs406, x408) =>
 bif decide (x408 < a0) then
 ((loopF (D_spec_l04Empty_s1 fu a0) fu ([], 0)).bind fun xs656 =>
 chk (rs406.length + 1 ≤ 4294967296) <|
 chk (in64 (x408 + 1)) <|
 some (.go ((rs406 ++ [xs656]), x408 + 1)))
 else
 (some (.out rs406))
def D_spec_l04Empty (fu : Nat) (a0 : Int) : Option (List (List Int)) :=
 (loopF (D_spec_l04Empty_s0 fu a0) fu ([], 0)).bind fun rs558 =>
 some rs558
def D_spec_SquareOfSchedules_s2 (fu : Nat) (a0_0 : Int) (a0_1 : List (List Int)) (a1_1 : List (List Int)) (rs3283 : List (List Int)) (x3285 : Int) (x5601 : Int) : ((List (List Int)) × Int) → Option (Lo ((List (List Int)) × Int) ((List (List Int)) ⊕ (Int × (List (List Int)) × Int))) := fun (rs6157, x6160) =>
 bif decide (x6160 < a0_0 - 1) then
 (chk (inR x3285 a0_1.length) <|
 chk (inR x6160 14) <|
 (bif decide (rd (rw_ a0_1 x3285.toNat) x6160.toNat ≤ x6160) then
 (some true)
 else
 (chk (inR x5601 a1_1.length) <|
 chk (inR x6160 14) <|
 some (!decide (rd (rw_ a1_1 x5601.toNat) x6160.toNat = rd (rw_ a0_1 x3285.toNat) x6160.toNat)))).bind fun b6278 =>
 bif b6278 then
 (chk (in64 (x6160 + 1)) <|
 some (.go (rs6157, x6160 + 1)))
 else
 (chk (inR x5601 ((rw_ rs3283 x3285.toNat).length)) <|
 bif decide (0 ≤ rd (rw_ rs6157 x3285.toNat) x5601.toNat) then
 (some (.out (.inr (0, [], 5))))
 else
 (chk (in64 (14 * x6160)) <|
 chk (in64 (14 * x6160 + (rd (rw_ a0_1 x3285.toNat) x6160.toNat))) <|
 chk (inR x5601 ((rw_ rs3283 x3285.toNat).length)) <|
 chk (in64 (x6160 + 1)) <|
 some (.go ((rs6157.set x3285.toNat ((rw_ rs6157 x3285.toNat).set x5601.toNat (14 * x6160 + (rd (rw_ a0_1 x3285.toNat) x6160.toNat)))), x6160 + 1)))))
 else
 (some (.out (.inl rs6157)))
def D_spec_SquareOfSchedules_s1 (fu : Nat) (a0_0 : Int) (a0_1 : List (List Int)) (a1_1 : List (List Int)) (rs3283 : List (List Int)) (x3285 : Int) : ((List (List Int)) × Int) → Option (Lo ((List (List Int)) × Int) ((List (List Int)) ⊕ (Int × (List (List Int)) × Int))) := fun (rs5598, x5601) =>
 bif decide (x5601 < a0_0 - 1) then
 ((loopF (D_spec_SquareOfSchedules_s2 fu a0_0 a0_1 a1_1 rs3283 x3285 x5601) fu (rs5598, 0)).bind fun
 | .inl rs6241 => (chk (in64 (x5601 + 1)) <|
 some (.go (rs6241, x5601 + 1)))
 | .inr v6368 => some (.out (.inr v6368)))
 else
 (some (.out (.inl rs5598)))
def D_spec_SquareOfSchedules_s0 (fu : Nat) (a0_0 : Int) (a0_1 : List (List Int)) (a1_1 : List (List Int)) (rs185 : List (List Int)) : ((List (List Int)) × Int) → Option (Lo ((List (List Int)) × Int) ((List (List Int)) ⊕ (Int × (List (List Int)) × Int))) := fun (rs3283, x3285) =>
 bif decide (x3285 < a0_0 - 1) then
 (chk (inR x3285 rs185.length) <|
 (loopF (D_spec_SquareOfSchedules_s1 fu a0_0 a0_1 a1_1 rs3283 x3285) fu (rs3283, 0)).bind fun
 | .inl rs5974 => (chk (in64 (x3285 + 1)) <|
 some (.go (rs5974, x3285 + 1)))
 | .inr v6388 => some (.out (.inr v6388)))
 else
 (some (.out (.inl rs3283)))
def D_spec_SquareOfSchedules (fu : Nat) (a0_0 : Int) (a0_1 : List (List Int)) (a1_0 : Int) (a1_1 : List (List Int)) : Option (Int × (List (List Int)) × Int) :=
 ((D_spec_l01Is fu a0_0 a0_1).bind fun b130 =>
 bif !b130 then
 (some true)
 else
 ((D_spec_l01Is fu a1_0 a1_1).bind fun b140 =>
 some (!b140))).bind fun b126 =>
 bif b126 then
 (some (0, [], 1))
 else
 (chk (in64 (a0_0 - 1)) <|
 bif (decide ((a0_0 - 1).tmod 2 = 0)) || ((!decide (a1_0 = a0_0)) || ((!decide (((a0_1.length : Nat) : Int) = a0_0 - 1)) || (!decide (((a1_1.length : Nat) : Int) = a0_0 - 1)))) then
 (some (0, [], 2))
 else
 ((D_spec_l04Empty fu (a0_0 - 1)).bind fun rs185 =>
 (loopF (D_spec_SquareOfSchedules_s0 fu a0_0 a0_1 a1_1 rs185) fu (rs185, 0)).bind fun
 | .inl rs4819 => (some (a0_0 - 1, rs4819, 0))
 | .inr v6405 => some v6405))
def D_impl_size_impl_Round (fu : Nat) (a0 : List (List Int)) : Option Int :=
 some ((a0.length : Nat) : Int)
def D_impl_emptySquare_s1 (fu : Nat) (rs358 : List (List Int)) (x360 : Int) : ((List (List Int)) × Int) → Option (Lo ((List (List Int)) × Int) (List (List Int))) := fun (rs538, x541) =>
 bif decide (x541 < (((rw_ rs358 x360.toNat).length : Nat) : Int)) then
 (chk (inR x541 ((rw_ rs358 x360.toNat).length)) <|
 chk (in64 (x541 + 1)) <|
 some (.go ((rs538.set x360.toNat ((rw_ rs538 x360.toNat).set x541.toNat (-1))), x541 + 1)))
 else
 (some (.out rs538))
def D_impl_emptySquare_s0 (fu : Nat) (rs104 : List (List Int)) : ((List (List Int)) × Int) → Option (Lo ((List (List Int)) × Int) (List (List Int))) := fun (rs358, x360) =>
 bif decide (x360 < ((rs104.length : Nat) : Int)) then
 (chk (inR x360 rs104.length) <|
 (loopF (D_impl_emptySquare_s1 fu rs358 x360) fu (rs358, 0)).bind fun rs558 =>
 chk (in64 (x360 + 1)) <|
 some (.go (rs558, x360 + 1)))
 else
 (some (.out rs358))
def D_impl_emptySquare (fu : Nat) (a0 : Int) : Option (Int × (List (List Int))) :=
 (D_impl_square fu a0).bind fun rs104 =>
 (loopF (D_impl_emptySquare_s0 fu rs104) fu (rs104, 0)).bind fun rs475 =>
 some (a0, rs475)
def D_impl_Round_pairs_s0 (fu : Nat) (a0 : List Int) (a1 : Int) : ((List (List Int)) × Int) → Option (Lo ((List (List Int)) × Int) (List (List Int))) := fun (rs189, x191) =>
 bif decide (x191 < a1) then
 (chk (inR x191 14) <|
 bif decide (x191 < rd a0 x191.toNat) then
 (chk (inR x191 14) <|
 chk (rs189.length + 1 ≤ 4294967296) <|
 chk (in64 (x191 + 1)) <|
 some (.go ((rs189 ++ [[x191, rd a0 x191.toNat]]), x191 + 1)))
 else
 (chk (in64 (x191 + 1)) <|
 some (.go (rs189, x191 + 1))))
 else
 (some (.out rs189))
def D_impl_Round_pairs (fu : Nat) (a0 : List Int) (a1 : Int) : Option (List (List Int)) :=
 (loopF (D_impl_Round_pairs_s0 fu a0 a1) fu ([], 0)).bind fun rs231 =>
 some rs231
def D_impl_Square_put (fu : Nat) (a0_0 : Int) (a0_1 : List (List Int)) (a1 : Int) (a2 : Int) (a3 : Int) (a4 : Int) : Option (List (List Int)) :=
 chk (inR a1 a0_1.length) <|
 chk (in64 (14 * (if a4 < a3 then a4 else a3))) <|
 chk (in64 (14 * (if a4 < a3 then a4 else a3) + (if a4 > a3 then a4 else a3))) <|
 chk (inR a2 ((rw_ a0_1 a1.toNat).length)) <|
 some (a0_1.set a1.toNat ((rw_ a0_1 a1.toNat).set a2.toNat (14 * (if a4 < a3 then a4 else a3) + (if a4 > a3 then a4 else a3))))
def D_impl_SquareOfSchedules_s2 (fu : Nat) (a1_1 : List (List Int)) (x226 : Int) (rs227 : List (List Int)) (x3219 : Int) (x5454 : Int) (rs5841 : List (List Int)) : ((List (List Int)) × Int) → Option (Lo ((List (List Int)) × Int) ((List (List Int)) ⊕ (Int × (List (List Int)) × Int))) := fun (rs5997, x6002) =>
 bif decide (x6002 < ((rs5841.length : Nat) : Int)) then
 (chk (inR x6002 rs5841.length) <|
 chk (inR 0 ((rw_ rs5841 x6002.toNat).length)) <|
 chk (inR (rd (rw_ rs5841 x6002.toNat) 0) 14) <|
 chk (inR 1 ((rw_ rs5841 x6002.toNat).length)) <|
 bif !decide (rd (rw_ a1_1 x5454.toNat) ((rd (rw_ rs5841 x6002.toNat) 0).toNat) = rd (rw_ rs5841 x6002.toNat) 1) then
 (chk (in64 (x6002 + 1)) <|
 some (.go (rs5997, x6002 + 1)))
 else
 (chk (inR x3219 rs227.length) <|
 chk (inR x5454 ((rw_ rs5997 x3219.toNat).length)) <|
 bif decide (0 ≤ rd (rw_ rs5997 x3219.toNat) x5454.toNat) then
 (some (.out (.inr (0, [], 5))))
 else
 (chk (inR 0 ((rw_ rs5841 x6002.toNat).length)) <|
 chk (inR 1 ((rw_ rs5841 x6002.toNat).length)) <|
 (D_impl_Square_put fu x226 rs5997 x3219 x5454 (rd (rw_ rs5841 x6002.toNat) 0) (rd (rw_ rs5841 x6002.toNat) 1)).bind fun rs6147 =>
 chk (in64 (x6002 + 1)) <|
 some (.go (rs6147, x6002 + 1)))))
 else
 (some (.out (.inl rs5997)))
def D_impl_SquareOfSchedules_s1 (fu : Nat) (a0_0 : Int) (a0_1 : List (List Int)) (a1_1 : List (List Int)) (x226 : Int) (rs227 : List (List Int)) (x3219 : Int) : ((List (List Int)) × Int) → Option (Lo ((List (List Int)) × Int) ((List (List Int)) ⊕ (Int × (List (List Int)) × Int))) := fun (rs5451, x5454) =>
 bif decide (x5454 < ((a1_1.length : Nat) : Int)) then
 (chk (inR x5454 a1_1.length) <|
 (D_impl_Round_pairs fu (rw_ a0_1 x3219.toNat) a0_0).bind fun rs5841 =>
 (loopF (D_impl_SquareOfSchedules_s2 fu a1_1 x226 rs227 x3219 x5454 rs5841) fu (rs5451, 0)).bind fun
 | .inl rs6067 => (chk (in64 (x5454 + 1)) <|
 some (.go (rs6067, x5454 + 1)))
 | .inr v6193 => some (.out (.inr v6193)))
 else
 (some (.out (.inl rs5451)))
def D_impl_SquareOfSchedules_s0 (fu : Nat) (a0_0 : Int) (a0_1 : List (List Int)) (a1_1 : List (List Int)) (x226 : Int) (rs227 : List (List Int)) : ((List (List Int)) × Int) → Option (Lo ((List (List Int)) × Int) ((List (List Int)) ⊕ (Int × (List (List Int)) × Int))) := fun (rs3217, x3219) =>
 bif decide (x3219 < ((a0_1.length : Nat) : Int)) then
 (chk (inR x3219 a0_1.length) <|
 (loopF (D_impl_SquareOfSchedules_s1 fu a0_0 a0_1 a1_1 x226 rs227 x3219) fu (rs3217, 0)).bind fun
 | .inl rs5812 => (chk (in64 (x3219 + 1)) <|
 some (.go (rs5812, x3219 + 1)))
 | .inr v6214 => some (.out (.inr v6214)))
 else
 (some (.out (.inl rs3217)))
def D_impl_SquareOfSchedules (fu : Nat) (a0_0 : Int) (a0_1 : List (List Int)) (a1_0 : Int) (a1_1 : List (List Int)) : Option (Int × (List (List Int)) × Int) :=
 ((D_impl_IsSchedule fu a0_0 a0_1).bind fun b130 =>
 bif !b130 then
 (some true)
 else
 ((D_impl_IsSchedule fu a1_0 a1_1).bind fun b140 =>
 some (!b140))).bind fun b126 =>
 bif b126 then
 (some (0, [], 1))
 else
 ((bif !decide (a1_0 = a0_0) then
 (some true)
 else
 (bif decide ((IntKind.i64.wrap (a0_0 - 1)).tmod 2 = 0) then
 (some true)
 else
 ((D_impl_size_impl_Round fu a0_1).bind fun x196 =>
 bif !decide (x196 = IntKind.i64.wrap (a0_0 - 1)) then
 (some true)
 else
 ((D_impl_size_impl_Round fu a1_1).bind fun x206 =>
 some (!decide (x206 = IntKind.i64.wrap (a0_0 - 1))))))).bind fun b180 =>
 bif b180 then
 (some (0, [], 2))
 else
 ((D_impl_emptySquare fu (IntKind.i64.wrap (a0_0 - 1))).bind fun (x226, rs227) =>
 (loopF (D_impl_SquareOfSchedules_s0 fu a0_0 a0_1 a1_1 x226 rs227) fu (rs227, 0)).bind fun
 | .inl rs4699 => (some (x226, rs4699, 0))
 | .inr v6231 => some v6231))
end Go.Proofs.Ytpaaoafgahbokaa
