/-
  What functions of the program compute, printed by a program. No condition.
-/
import Derived.Test.YtdafmafigcljkaaDA
import Derived.Test.YtdafmafigcljkaaBit
import Derived.Test.YtdafmafigcljkaaFb
namespace Go.Proofs.Ytdafmafigcljkaa
open Go Am
set_option linter.unusedVariables false
def D_spec_l01Round_s0 (fu : Nat) (a0 : Int) (a1 : List Int) : Int → Option (Lo Int (Unit ⊕ Bool)) := fun x323 =>
 bif decide (x323 < 14) then
 ((bif decide (a0 ≤ x323) then
 (chk (inR x323 14) <|
 bif !decide (rd a1 x323.toNat = 0) then
 (some true)
 else
 (bif decide (x323 < a0) then
 (chk (inR x323 14) <|
 chk (in64 (a0 - 1)) <|
 (D_spec_l01In fu (rd a1 x323.toNat) 0 (a0 - 1)).bind fun b514 =>
 bif !b514 then
 (some true)
 else
 (chk (inR x323 14) <|
 chk (inR (rd a1 x323.toNat) 14) <|
 some (!decide (rd a1 ((rd a1 x323.toNat).toNat) = x323))))
 else
 (some false)))
 else
 (bif decide (x323 < a0) then
 (chk (inR x323 14) <|
 chk (in64 (a0 - 1)) <|
 (D_spec_l01In fu (rd a1 x323.toNat) 0 (a0 - 1)).bind fun b536 =>
 bif !b536 then
 (some true)
 else
 (chk (inR x323 14) <|
 chk (inR (rd a1 x323.toNat) 14) <|
 some (!decide (rd a1 ((rd a1 x323.toNat).toNat) = x323))))
 else
 (some false))).bind fun b496 =>
 bif b496 then
 (some (.out (.inr false)))
 else
 (chk (in64 (x323 + 1)) <|
 some (.go (x323 + 1))))
 else
 (some (.out (.inl ())))
def D_spec_l01Round (fu : Nat) (a0 : Int) (a1 : List Int) : Option Bool :=
 (D_spec_l01In fu a0 2 14).bind fun b104 =>
 bif !b104 then
 (some false)
 else
 ((loopF (D_spec_l01Round_s0 fu a0 a1) fu 0).bind fun
 | .inl _ => (some true)
 | .inr v567 => some v567)
def D_spec_l01Is_s0 (fu : Nat) (a0_0 : Int) (a0_1 : List (List Int)) : Int → Option (Lo Int (Unit ⊕ Bool)) := fun x169 =>
 bif decide (x169 < ((a0_1.length : Nat) : Int)) then
 (chk (inR x169 a0_1.length) <|
 (D_spec_l01Round fu a0_0 (rw_ a0_1 x169.toNat)).bind fun b202 =>
 bif !b202 then
 (some (.out (.inr false)))
 else
 (chk (in64 (x169 + 1)) <|
 some (.go (x169 + 1))))
 else
 (some (.out (.inl ())))
def D_spec_l01Is (fu : Nat) (a0_0 : Int) (a0_1 : List (List Int)) : Option Bool :=
 ((D_spec_l01In fu a0_0 2 14).bind fun b116 =>
 bif !b116 then
 (some true)
 else
 (some (decide (40 < ((a0_1.length : Nat) : Int))))).bind fun b112 =>
 bif b112 then
 (some false)
 else
 ((loopF (D_spec_l01Is_s0 fu a0_0 a0_1) fu 0).bind fun
 | .inl _ => (some true)
 | .inr v219 => some v219)
def D_spec_l01Pairs_s0 (fu : Nat) (a0 : Int) (a1 : List Int) : ((List (List Int)) × Int) → Option (Lo ((List (List Int)) × Int) (List (List Int))) := fun (rs189, x191) =>
 bif decide (x191 < a0) then
 (chk (inR x191 14) <|
 bif decide (x191 < rd a1 x191.toNat) then
 (chk (inR x191 14) <|
 chk (rs189.length + 1 ≤ 4294967296) <|
 chk (in64 (x191 + 1)) <|
 some (.go ((rs189 ++ [[x191, rd a1 x191.toNat]]), x191 + 1)))
 else
 (chk (in64 (x191 + 1)) <|
 some (.go (rs189, x191 + 1))))
 else
 (some (.out rs189))
def D_spec_l01Pairs (fu : Nat) (a0 : Int) (a1 : List Int) : Option (List (List Int)) :=
 (loopF (D_spec_l01Pairs_s0 fu a0 a1) fu ([], 0)).bind fun rs231 =>
 some rs231
def D_spec_l05Rows_s1 (fu : Nat) (a0 : Int) (a1 : List Int) : ((List Int) × Int) → Option (Lo ((List Int) × Int) (List Int)) := fun (xs1121, x1122) =>
 bif decide (x1122 < a0) then
 (chk (inR x1122 14) <|
 bif decide (rd a1 x1122.toNat = x1122) then
 (chk (inR x1122 a0.toNat) <|
 chk (in64 (x1122 + 1)) <|
 some (.go ((xs1121.set x1122.toNat (-1)), x1122 + 1)))
 else
 (chk (in64 (x1122 + 1)) <|
 some (.go (xs1121, x1122 + 1))))
 else
 (some (.out xs1121))
def D_spec_l05Rows_s2 (fu : Nat) (a0 : Int) (rs104 : List (List Int)) (x740 : Int) : ((List Int) × Int) → Option (Lo ((List Int) × Int) (List Int)) := fun (xs1260, x1261) =>
 bif decide (x1261 < ((rs104.length : Nat) : Int)) then
 (chk (inR x1261 rs104.length) <|
 chk (0 ≤ IntKind.u64.wrap x1261) <|
 chk (inR (iand .i64 (ishr .i64 x740 (IntKind.u64.wrap x1261)) 1) ((rw_ rs104 x1261.toNat).length)) <|
 chk (inR (rd (rw_ rs104 x1261.toNat) ((iand .i64 (ishr .i64 x740 (IntKind.u64.wrap x1261)) 1).toNat)) a0.toNat) <|
 chk (in64 (x1261 + 1)) <|
 some (.go ((xs1260.set ((rd (rw_ rs104 x1261.toNat) ((iand .i64 (ishr .i64 x740 (IntKind.u64.wrap x1261)) 1).toNat)).toNat) 1), x1261 + 1)))
 else
 (some (.out xs1260))
def D_spec_l05Rows_s0 (fu : Nat) (a0 : Int) (a1 : List Int) (rs104 : List (List Int)) : ((List (List Int)) × Int) → Option (Lo ((List (List Int)) × Int) (List (List Int))) := fun (rs738, x740) =>
 chk (0 ≤ IntKind.u64.wrap ((rs104.length : Nat) : Int)) <|
 bif decide (x740 < ishl .i64 1 (IntKind.u64.wrap ((rs104.length : Nat) : Int))) then
 (chk (0 ≤ a0 ∧ a0 ≤ 4294967296) <|
 (loopF (D_spec_l05Rows_s1 fu a0 a1) fu ((List.replicate a0.toNat 0), 0)).bind fun xs1146 =>
 (loopF (D_spec_l05Rows_s2 fu a0 rs104 x740) fu (xs1146, 0)).bind fun xs1288 =>
 chk (rs738.length + 1 ≤ 4294967296) <|
 chk (in64 (x740 + 1)) <|
 some (.go ((rs738 ++ [xs1288]), x740 + 1)))
 else
 (some (.out rs738))
def D_spec_l05Rows (fu : Nat) (a0 : Int) (a1 : List Int) : Option (List (List Int)) :=
 (D_spec_l01Pairs fu a0 a1).bind fun rs104 =>
 (loopF (D_spec_l05Rows_s0 fu a0 a1 rs104) fu ([], 0)).bind fun rs1044 =>
 some rs1044
def D_spec_l05Breaks_s1 (fu : Nat) (a0 : Int) (a1 : List (List Int)) (x890 : Int) : ((List Int) × Int) → Option (Lo ((List Int) × Int) (List Int)) := fun (xs1478, x1479) =>
 bif decide (x1479 < a0) then
 ((chk (inR x890 a1.length) <|
 chk (inR x1479 ((rw_ a1 x890.toNat).length)) <|
 bif decide (0 ≤ rd (rw_ a1 x890.toNat) x1479.toNat) then
 (chk (inR x890 a1.length) <|
 chk (inR x1479 ((rw_ a1 x890.toNat).length)) <|
 chk (in64 (x890 - 1)) <|
 chk (inR (x890 - 1) a1.length) <|
 chk (inR x1479 ((rw_ a1 ((x890 - 1).toNat)).length)) <|
 some (decide (rd (rw_ a1 x890.toNat) x1479.toNat = rd (rw_ a1 ((x890 - 1).toNat)) x1479.toNat)))
 else
 (some false)).bind fun b1614 =>
 bif b1614 then
 (chk (inR x1479 a0.toNat) <|
 chk (in64 (rd xs1478 x1479.toNat + 1)) <|
 chk (inR x1479 a0.toNat) <|
 chk (in64 (x1479 + 1)) <|
 some (.go ((xs1478.set x1479.toNat (rd xs1478 x1479.toNat + 1)), x1479 + 1)))
 else
 (chk (in64 (x1479 + 1)) <|
 some (.go (xs1478, x1479 + 1))))
 else
 (some (.out xs1478))
def D_spec_l05Breaks_s0 (fu : Nat) (a0 : Int) (a1 : List (List Int)) : ((List Int) × Int) → Option (Lo ((List Int) × Int) (List Int)) := fun (xs889, x890) =>
 bif decide (x890 < ((a1.length : Nat) : Int)) then
 ((loopF (D_spec_l05Breaks_s1 fu a0 a1 x890) fu (xs889, 0)).bind fun xs1570 =>
 chk (in64 (x890 + 1)) <|
 some (.go (xs1570, x890 + 1)))
 else
 (some (.out xs889))
def D_spec_l05Breaks (fu : Nat) (a0 : Int) (a1 : List (List Int)) : Option (List Int) :=
 chk (0 ≤ a0 ∧ a0 ≤ 4294967296) <|
 (loopF (D_spec_l05Breaks_s0 fu a0 a1) fu ((List.replicate a0.toNat 0), 1)).bind fun xs1281 =>
 some xs1281
def D_spec_FewestBreaks_s0 (fu : Nat) (a0_0 : Int) (a0_1 : List (List Int)) : (Int × Int) → Option (Lo (Int × Int) Int) := fun (x169, x170) =>
 bif decide (x170 < ((a0_1.length : Nat) : Int)) then
 (chk (inR x170 a0_1.length) <|
 (D_spec_l01Pairs fu a0_0 (rw_ a0_1 x170.toNat)).bind fun rs214 =>
 chk (in64 (x169 + ((rs214.length : Nat) : Int))) <|
 chk (in64 (x170 + 1)) <|
 some (.go (x169 + ((rs214.length : Nat) : Int), x170 + 1)))
 else
 (some (.out x169))
def D_spec_FewestBreaks_s4 (fu : Nat) (xs11980 : List Int) : (Int × Int) → Option (Lo (Int × Int) Int) := fun (x12034, x12036) =>
 bif decide (x12036 < ((xs11980.length : Nat) : Int)) then
 (chk (inR x12036 xs11980.length) <|
 chk (in64 (x12034 + (rd xs11980 x12036.toNat))) <|
 chk (in64 (x12036 + 1)) <|
 some (.go (x12034 + (rd xs11980 x12036.toNat), x12036 + 1)))
 else
 (some (.out x12034))
def D_spec_FewestBreaks_s3 (fu : Nat) (a0_0 : Int) (rs6212 : List (List Int)) (xs6217 : List Int) (rs9212 : List (List Int)) (x10694 : Int) : (Int × Int) → Option (Lo (Int × Int) Int) := fun (x11776, x11777) =>
 bif decide (x11777 < ((rs6212.length : Nat) : Int)) then
 (chk (inR x11777 xs6217.length) <|
 chk (inR x11777 rs6212.length) <|
 chk (inR x10694 rs9212.length) <|
 (D_spec_l05Breaks fu a0_0 [(rw_ rs6212 x11777.toNat), (rw_ rs9212 x10694.toNat)]).bind fun xs11980 =>
 (loopF (D_spec_FewestBreaks_s4 fu xs11980) fu (rd xs6217 x11777.toNat, 0)).bind fun x12054 =>
 bif (decide (x11777 = 0)) || (decide (x12054 < x11776)) then
 (chk (in64 (x11777 + 1)) <|
 some (.go (x12054, x11777 + 1)))
 else
 (chk (in64 (x11777 + 1)) <|
 some (.go (x11776, x11777 + 1))))
 else
 (some (.out x11776))
def D_spec_FewestBreaks_s2 (fu : Nat) (a0_0 : Int) (rs6212 : List (List Int)) (xs6217 : List Int) (rs9212 : List (List Int)) : ((List Int) × Int) → Option (Lo ((List Int) × Int) (List Int)) := fun (xs10693, x10694) =>
 bif decide (x10694 < ((rs9212.length : Nat) : Int)) then
 ((loopF (D_spec_FewestBreaks_s3 fu a0_0 rs6212 xs6217 rs9212 x10694) fu (0, 0)).bind fun x11942 =>
 chk (xs10693.length + 1 ≤ 4294967296) <|
 chk (in64 (x10694 + 1)) <|
 some (.go ((xs10693 ++ [x11942]), x10694 + 1)))
 else
 (some (.out xs10693))
def D_spec_FewestBreaks_s1 (fu : Nat) (a0_0 : Int) (a0_1 : List (List Int)) : ((List (List Int)) × (List Int) × Int) → Option (Lo ((List (List Int)) × (List Int) × Int) (List Int)) := fun (rs6212, xs6217, x6218) =>
 bif decide (x6218 < ((a0_1.length : Nat) : Int)) then
 (chk (inR x6218 a0_1.length) <|
 (D_spec_l05Rows fu a0_0 (rw_ a0_1 x6218.toNat)).bind fun rs9212 =>
 (loopF (D_spec_FewestBreaks_s2 fu a0_0 rs6212 xs6217 rs9212) fu ([], 0)).bind fun xs11421 =>
 chk (in64 (x6218 + 1)) <|
 some (.go (rs9212, xs11421, x6218 + 1)))
 else
 (some (.out xs6217))
def D_spec_FewestBreaks_s5 (fu : Nat) (xs9193 : List Int) : (Int × Int) → Option (Lo (Int × Int) Int) := fun (x12261, x12262) =>
 bif decide (x12262 < ((xs9193.length : Nat) : Int)) then
 ((bif decide (x12262 = 0) then
 (some true)
 else
 (chk (inR x12262 xs9193.length) <|
 some (decide (rd xs9193 x12262.toNat < x12261)))).bind fun b12318 =>
 bif b12318 then
 (chk (inR x12262 xs9193.length) <|
 chk (in64 (x12262 + 1)) <|
 some (.go (rd xs9193 x12262.toNat, x12262 + 1)))
 else
 (chk (in64 (x12262 + 1)) <|
 some (.go (x12261, x12262 + 1))))
 else
 (some (.out x12261))
def D_spec_FewestBreaks (fu : Nat) (a0_0 : Int) (a0_1 : List (List Int)) : Option (Int × Int) :=
 (D_spec_l01Is fu a0_0 a0_1).bind fun b104 =>
 bif !b104 then
 (some (0, 1))
 else
 ((loopF (D_spec_FewestBreaks_s0 fu a0_0 a0_1) fu (0, 0)).bind fun x198 =>
 bif decide (15 < x198) then
 (some (0, 3))
 else
 ((loopF (D_spec_FewestBreaks_s1 fu a0_0 a0_1) fu ([], [], 0)).bind fun xs9193 =>
 (loopF (D_spec_FewestBreaks_s5 fu xs9193) fu (0, 0)).bind fun x12298 =>
 some (x12298, 0)))
end Go.Proofs.Ytdafmafigcljkaa
