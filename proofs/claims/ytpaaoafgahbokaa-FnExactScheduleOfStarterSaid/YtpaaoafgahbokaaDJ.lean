/-
  What functions of the program compute, printed by a program. No condition.
-/
import Derived.Test.YtpaaoafgahbokaaDS
import Derived.Test.YtpaaoafgahbokaaDE
namespace Go.Proofs.Ytpaaoafgahbokaa
open Go Am
set_option linter.unusedVariables false
def D_spec_l03Schedule_s1 (fu : Nat) (a0 : Int) (a1 : List (List Int)) (x730 : Int) : ((List (List Int)) × Int) → Option (Lo ((List (List Int)) × Int) (List (List Int))) := fun (rs1181, x1183) =>
 bif decide (x1183 < ((a1.length : Nat) : Int)) then
 (chk (inR x1183 a1.length) <|
 chk (inR 0 ((rw_ a1 x1183.toNat).length)) <|
 chk (in64 (rd (rw_ a1 x1183.toNat) 0 + x730)) <|
 chk ((a0 : Int) ≠ 0) <|
 chk (inR x1183 a1.length) <|
 chk (inR 1 ((rw_ a1 x1183.toNat).length)) <|
 chk (in64 (rd (rw_ a1 x1183.toNat) 1 + x730)) <|
 chk ((a0 : Int) ≠ 0) <|
 chk (rs1181.length + 1 ≤ 4294967296) <|
 chk (in64 (x1183 + 1)) <|
 some (.go ((rs1181 ++ [[(rd (rw_ a1 x1183.toNat) 0 + x730).tmod a0, (rd (rw_ a1 x1183.toNat) 1 + x730).tmod a0]]), x1183 + 1)))
 else
 (some (.out rs1181))
def D_spec_l03Schedule_s0 (fu : Nat) (a0 : Int) (a1 : List (List Int)) : ((List (List Int)) × Int) → Option (Lo ((List (List Int)) × Int) (List (List Int))) := fun (rs729, x730) =>
 bif decide (x730 < a0) then
 ((loopF (D_spec_l03Schedule_s1 fu a0 a1 x730) fu ([[a0, x730]], 0)).bind fun rs1241 =>
 chk (in64 (a0 + 1)) <|
 (D_spec_l01Made fu (a0 + 1) rs1241).bind fun xs1322 =>
 chk (rs729.length + 1 ≤ 4294967296) <|
 chk (in64 (x730 + 1)) <|
 some (.go ((rs729 ++ [xs1322]), x730 + 1)))
 else
 (some (.out rs729))
def D_spec_l03Schedule (fu : Nat) (a0 : Int) (a1 : List (List Int)) : Option (Int × (List (List Int))) :=
 chk (in64 (a0 + 1)) <|
 (loopF (D_spec_l03Schedule_s0 fu a0 a1) fu ([], 0)).bind fun rs1035 =>
 some (a0 + 1, rs1035)
def D_spec_ScheduleOfStarter (fu : Nat) (a0 : Int) (a1 : List (List Int)) : Option (Int × (List (List Int)) × Int) :=
 (D_spec_l03Code fu a0 a1).bind fun x104 =>
 bif !decide (x104 = 0) then
 (some (0, [], x104))
 else
 ((D_spec_l03Schedule fu a0 a1).bind fun (x117, rs118) =>
 some (x117, rs118, 0))
def D_impl_ScheduleOfStarter_s1 (fu : Nat) (a0 : Int) (a1 : List (List Int)) (x597 : Int) : ((List Int) × Int) → Option (Lo ((List Int) × Int) (List Int)) := fun (xs956, x957) =>
 bif decide (x957 < ((a1.length : Nat) : Int)) then
 (chk (inR x957 a1.length) <|
 chk (inR 0 ((rw_ a1 x957.toNat).length)) <|
 chk (in64 (rd (rw_ a1 x957.toNat) 0 + x597)) <|
 chk ((a0 : Int) ≠ 0) <|
 chk (inR 1 ((rw_ a1 x957.toNat).length)) <|
 chk (in64 (rd (rw_ a1 x957.toNat) 1 + x597)) <|
 chk ((a0 : Int) ≠ 0) <|
 (D_impl_Round_meet fu xs956 ((rd (rw_ a1 x957.toNat) 0 + x597).tmod a0) ((rd (rw_ a1 x957.toNat) 1 + x597).tmod a0)).bind fun xs1033 =>
 chk (in64 (x957 + 1)) <|
 some (.go (xs1033, x957 + 1)))
 else
 (some (.out xs956))
def D_impl_ScheduleOfStarter_s0 (fu : Nat) (a0 : Int) (a1 : List (List Int)) : ((List (List Int)) × Int) → Option (Lo ((List (List Int)) × Int) (List (List Int))) := fun (rs596, x597) =>
 bif decide (x597 < a0) then
 (chk (in64 (a0 + 1)) <|
 (D_impl_free fu (a0 + 1)).bind fun xs851 =>
 (D_impl_Round_meet fu xs851 a0 x597).bind fun xs864 =>
 (loopF (D_impl_ScheduleOfStarter_s1 fu a0 a1 x597) fu (xs864, 0)).bind fun xs997 =>
 chk (rs596.length + 1 ≤ 4294967296) <|
 chk (in64 (x597 + 1)) <|
 some (.go ((rs596 ++ [xs997]), x597 + 1)))
 else
 (some (.out rs596))
def D_impl_ScheduleOfStarter (fu : Nat) (a0 : Int) (a1 : List (List Int)) : Option (Int × (List (List Int)) × Int) :=
 (D_impl_starterCode fu a0 (fun _ => D_impl_always fu ) [a1]).bind fun x108 =>
 bif !decide (x108 = 0) then
 (some (0, [], x108))
 else
 (chk (in64 (a0 + 1)) <|
 (loopF (D_impl_ScheduleOfStarter_s0 fu a0 a1) fu ([], 0)).bind fun rs832 =>
 some (a0 + 1, rs832, 0))
end Go.Proofs.Ytpaaoafgahbokaa
