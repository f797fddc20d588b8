/-
  What functions of the program compute, printed by a program. No condition.
-/
import Derived.Test.YtdafmafigcljkaaDA
import Derived.Test.YtdafmafigcljkaaPw
import Derived.Test.YtdafmafigcljkaaAst
import Derived.Test.YtdafmafigcljkaaBit
import Derived.Test.YtdafmafigcljkaaFb
import Derived.Test.YtdafmafigcljkaaSrc
namespace Go.Proofs.Ytdafmafigcljkaa
open Go Am
set_option linter.unusedVariables false
def D_spec_l01From_s0 (fu : Nat) (a0 : List Int) : (Int × Int) → Option (Lo (Int × Int) Int) := fun (x154, x155) =>
 bif (decide (x155 < ((a0.length : Nat) : Int))) && (decide (x155 < 4096)) then
 (chk (inR x155 a0.length) <|
 chk (in64 (x155 + 1)) <|
 some (.go (IntKind.u64.wrap (IntKind.u64.wrap (IntKind.u64.wrap (x154 * 1099511628211) + (IntKind.u64.wrap (rd a0 x155.toNat))) + 223), x155 + 1)))
 else
 (some (.out x154))
def D_spec_l01From (fu : Nat) (a0 : List Int) : Option (Int × Int) :=
 (loopF (D_spec_l01From_s0 fu a0) fu (IntKind.u64.wrap (13791 + (IntKind.u64.wrap ((a0.length : Nat) : Int))), 0)).bind fun x178 =>
 some (0, x178)
def D_spec_l01Next (fu : Nat) (a1 : Int) (n0_0 : List Int) (n0_1 : Int) (n0_2 : Int) : Option (Int × Int × Int) :=
 bif decide (a1 < 1) then
 (some (0, n0_1, n0_2))
 else
 ((bif decide (n0_1 < ((n0_0.length : Nat) : Int)) then
 (chk (inR n0_1 n0_0.length) <|
 chk (in64 (rd n0_0 n0_1.toNat)) <|
 chk (in64 (IntKind.i64.wrap (iand .u64 (ishr .u64 (IntKind.u64.wrap (IntKind.u64.wrap (n0_2 * 6364136223846793005) + 1442695040888963407)) 33) 16777215) + (rd n0_0 n0_1.toNat))) <|
 chk (in64 (n0_1 + 1)) <|
 some (n0_1 + 1, IntKind.i64.wrap (iand .u64 (ishr .u64 (IntKind.u64.wrap (IntKind.u64.wrap (n0_2 * 6364136223846793005) + 1442695040888963407)) 33) 16777215) + (rd n0_0 n0_1.toNat)))
 else
 (some (n0_1, IntKind.i64.wrap (iand .u64 (ishr .u64 (IntKind.u64.wrap (IntKind.u64.wrap (n0_2 * 6364136223846793005) + 1442695040888963407)) 33) 16777215)))).bind fun (x128, x129) =>
 chk ((a1 : Int) ≠ 0) <|
 some (x129.tmod a1, x128, IntKind.u64.wrap (IntKind.u64.wrap (n0_2 * 6364136223846793005) + 1442695040888963407)))
def D_spec_l01Pick (fu : Nat) (n0_0 : List Int) (n0_1 : Int) (n0_2 : Int) (k_n1 : Nat) (n1 : List Int) : Option (Int × Int × Int) :=
 (D_spec_l01Next fu ((k_n1 : Nat) : Int) n0_0 n0_1 n0_2).bind fun (x103, x104, x105) =>
 chk (inR x103 k_n1) <|
 some (rd n1 x103.toNat, x104, x105)
def D_spec_l01DrawOrder_s0 (fu : Nat) (a1 : Int) (n0_0 : List Int) : (Int × Int × (List Int) × Int) → Option (Lo (Int × Int × (List Int) × Int) (Int × Int × (List Int))) := fun (x242, x243, xs247, x248) =>
 bif decide (x248 < a1) then
 (chk (in64 (x248 + 1)) <|
 (D_spec_l01Next fu (x248 + 1) n0_0 x242 x243).bind fun (x338, x339, x340) =>
 chk (0 ≤ x338 ∧ x338 ≤ ((xs247.length : Nat) : Int)) <|
 (D_spec_l01Own fu (xs247.take x338.toNat)).bind fun xs351 =>
 chk (xs351.length + 1 ≤ 4294967296) <|
 chk (0 ≤ x338 ∧ x338 ≤ ((xs247.length : Nat) : Int)) <|
 chk (((xs351 ++ [x248]).length) + (xs247.length - x338.toNat) ≤ 4294967296) <|
 chk (in64 (x248 + 1)) <|
 some (.go (x339, x340, ((xs351 ++ [x248]) ++ (xs247.drop x338.toNat)), x248 + 1)))
 else
 (some (.out (x242, x243, xs247)))
def D_spec_l01DrawOrder (fu : Nat) (a1 : Int) (n0_0 : List Int) (n0_1 : Int) (n0_2 : Int) : Option ((List Int) × Int × Int) :=
 (loopF (D_spec_l01DrawOrder_s0 fu a1 n0_0) fu (n0_1, n0_2, [], 0)).bind fun (x312, x313, xs317) =>
 some (xs317, x312, x313)
def D_spec_l01DrawRound_s0 (fu : Nat) (a1 : Int) (n0_0 : List Int) (xs107 : List Int) (x129 : Int) : (Int × Int × (List (List Int)) × Int) → Option (Lo (Int × Int × (List (List Int)) × Int) (Int × Int × (List (List Int)))) := fun (x373, x374, rs380, x382) =>
 chk (in64 (x382 + 1)) <|
 bif decide (x382 + 1 < a1) then
 ((bif !(decide (x129 = 0)) then
 (some (x373, x374, true))
 else
 ((D_spec_l01Next fu 2 n0_0 x373 x374).bind fun (x562, x563, x564) =>
 some (x563, x564, decide (x562 = 0)))).bind fun (x541, x542, b546) =>
 bif b546 then
 (chk (inR x382 xs107.length) <|
 chk (in64 (x382 + 1)) <|
 chk (inR (x382 + 1) xs107.length) <|
 chk (rs380.length + 1 ≤ 4294967296) <|
 chk (in64 (x382 + 2)) <|
 some (.go (x541, x542, (rs380 ++ [[rd xs107 x382.toNat, rd xs107 ((x382 + 1).toNat)]]), x382 + 2)))
 else
 (chk (in64 (x382 + 2)) <|
 some (.go (x541, x542, rs380, x382 + 2))))
 else
 (some (.out (x373, x374, rs380)))
def D_spec_l01DrawRound (fu : Nat) (a1 : Int) (n0_0 : List Int) (n0_1 : Int) (n0_2 : Int) : Option ((List Int) × Int × Int) :=
 (D_spec_l01DrawOrder fu a1 n0_0 n0_1 n0_2).bind fun (xs107, x108, x109) =>
 (D_spec_l01Next fu 3 n0_0 x108 x109).bind fun (x129, x130, x131) =>
 (loopF (D_spec_l01DrawRound_s0 fu a1 n0_0 xs107 x129) fu (x130, x131, [], 0)).bind fun (x491, x492, rs497) =>
 (D_spec_l01Made fu a1 rs497).bind fun xs638 =>
 some (xs638, x491, x492)
def D_spec_l01Circle_s1 (fu : Nat) (a0 : Int) (x540 : Int) : ((List Int) × Int) → Option (Lo ((List Int) × Int) (List Int)) := fun (xs831, x832) =>
 bif decide (x832 < a0 - 1 + (a0.tmod 2)) then
 (chk (in64 (2 * x540)) <|
 chk (in64 (2 * x540 + (a0 - 1 + (a0.tmod 2)))) <|
 chk (in64 (2 * x540 + (a0 - 1 + (a0.tmod 2)) - x832)) <|
 chk ((a0 - 1 + (a0.tmod 2) : Int) ≠ 0) <|
 chk (inR x832 14) <|
 chk (in64 (x832 + 1)) <|
 some (.go ((xs831.set x832.toNat ((2 * x540 + (a0 - 1 + (a0.tmod 2)) - x832).tmod (a0 - 1 + (a0.tmod 2)))), x832 + 1)))
 else
 (some (.out xs831))
def D_spec_l01Circle_s0 (fu : Nat) (a0 : Int) : ((List (List Int)) × Int) → Option (Lo ((List (List Int)) × Int) (List (List Int))) := fun (rs539, x540) =>
 bif decide (x540 < a0 - 1 + (a0.tmod 2)) then
 ((D_spec_l01Free fu a0).bind fun xs767 =>
 (loopF (D_spec_l01Circle_s1 fu a0 x540) fu (xs767, 0)).bind fun xs857 =>
 (bif decide (a0.tmod 2 = 0) then
 (chk (in64 (a0 - 1)) <|
 chk (inR x540 14) <|
 chk (in64 (a0 - 1)) <|
 chk (inR (a0 - 1) 14) <|
 some ((xs857.set x540.toNat (a0 - 1)).set ((a0 - 1).toNat) x540))
 else
 (some xs857)).bind fun xs920 =>
 chk (rs539.length + 1 ≤ 4294967296) <|
 chk (in64 (x540 + 1)) <|
 some (.go ((rs539 ++ [xs920]), x540 + 1)))
 else
 (some (.out rs539))
def D_spec_l01Circle (fu : Nat) (a0 : Int) : Option (Int × (List (List Int))) :=
 chk (in64 (a0 - 1)) <|
 chk (in64 (a0 - 1 + (a0.tmod 2))) <|
 (loopF (D_spec_l01Circle_s0 fu a0) fu ([], 0)).bind fun rs751 =>
 some (a0, rs751)
def D_spec_l01Renamed_s1 (fu : Nat) (a0_0 : Int) (a0_1 : List (List Int)) (a1 : List Int) (x451 : Int) : ((List Int) × Int) → Option (Lo ((List Int) × Int) (List Int)) := fun (xs692, x693) =>
 bif decide (x693 < a0_0) then
 (chk (inR x693 a1.length) <|
 chk (inR x451 a0_1.length) <|
 chk (inR x693 14) <|
 chk (inR (rd (rw_ a0_1 x451.toNat) x693.toNat) a1.length) <|
 chk (inR (rd a1 x693.toNat) 14) <|
 chk (in64 (x693 + 1)) <|
 some (.go ((xs692.set ((rd a1 x693.toNat).toNat) (rd a1 ((rd (rw_ a0_1 x451.toNat) x693.toNat).toNat))), x693 + 1)))
 else
 (some (.out xs692))
def D_spec_l01Renamed_s0 (fu : Nat) (a0_0 : Int) (a0_1 : List (List Int)) (a1 : List Int) : ((List (List Int)) × Int) → Option (Lo ((List (List Int)) × Int) (List (List Int))) := fun (rs450, x451) =>
 bif decide (x451 < ((a0_1.length : Nat) : Int)) then
 ((loopF (D_spec_l01Renamed_s1 fu a0_0 a0_1 a1 x451) fu ((List.replicate 14 0), 0)).bind fun xs719 =>
 chk (rs450.length + 1 ≤ 4294967296) <|
 chk (in64 (x451 + 1)) <|
 some (.go ((rs450 ++ [xs719]), x451 + 1)))
 else
 (some (.out rs450))
def D_spec_l01Renamed (fu : Nat) (a0_0 : Int) (a0_1 : List (List Int)) (a1 : List Int) : Option (Int × (List (List Int))) :=
 (loopF (D_spec_l01Renamed_s0 fu a0_0 a0_1 a1) fu ([], 0)).bind fun rs614 =>
 some (a0_0, rs614)
def D_spec_l01Reordered_s0 (fu : Nat) (a0_1 : List (List Int)) (a1 : List Int) : ((List (List Int)) × Int) → Option (Lo ((List (List Int)) × Int) (List (List Int))) := fun (rs188, x189) =>
 bif decide (x189 < ((a1.length : Nat) : Int)) then
 (chk (inR x189 a1.length) <|
 chk (inR (rd a1 x189.toNat) a0_1.length) <|
 chk (rs188.length + 1 ≤ 4294967296) <|
 chk (in64 (x189 + 1)) <|
 some (.go ((rs188 ++ [(rw_ a0_1 ((rd a1 x189.toNat).toNat))]), x189 + 1)))
 else
 (some (.out rs188))
def D_spec_l01Reordered (fu : Nat) (a0_0 : Int) (a0_1 : List (List Int)) (a1 : List Int) : Option (Int × (List (List Int))) :=
 (loopF (D_spec_l01Reordered_s0 fu a0_1 a1) fu ([], 0)).bind fun rs221 =>
 some (a0_0, rs221)
def D_spec_l01DrawRobin (fu : Nat) (n0_0 : List Int) (n0_1 : Int) (n0_2 : Int) : Option (Int × (List (List Int)) × Int × Int) :=
 (D_spec_l01Pick fu n0_0 n0_1 n0_2 14 [2, 3, 4, 4, 5, 6, 6, 7, 8, 8, 9, 10, 12, 14]).bind fun (x112, x113, x114) =>
 (D_spec_l01Circle fu x112).bind fun (x123, rs124) =>
 (D_spec_l01Next fu 3 n0_0 x113 x114).bind fun (x146, x147, x148) =>
 (bif decide (0 < x146) then
 ((D_spec_l01DrawOrder fu x123 n0_0 x147 x148).bind fun (xs216, x217, x218) =>
 (D_spec_l01Renamed fu x123 rs124 xs216).bind fun (x231, rs232) =>
 some (x217, x218, x231, rs232))
 else
 (some (x147, x148, x123, rs124))).bind fun (x199, x200, x203, rs207) =>
 (D_spec_l01Next fu 3 n0_0 x199 x200).bind fun (x266, x267, x268) =>
 bif decide (0 < x266) then
 ((D_spec_l01DrawOrder fu ((rs207.length : Nat) : Int) n0_0 x267 x268).bind fun (xs282, x283, x284) =>
 (D_spec_l01Reordered fu x203 rs207 xs282).bind fun (x297, rs298) =>
 some (x297, rs298, x283, x284))
 else
 (some (x203, rs207, x267, x268))
def D_spec_l01BadRound (fu : Nat) (a1 : List Int) (n0_0 : List Int) (n0_1 : Int) (n0_2 : Int) : Option ((List Int) × Int × Int) :=
 (D_spec_l01Next fu 24 n0_0 n0_1 n0_2).bind fun (x111, x112, x113) =>
 bif decide (x111 = 0) then
 ((D_spec_l01Next fu 14 n0_0 x112 x113).bind fun (x127, x128, x129) =>
 (D_spec_l01Pick fu n0_0 x128 x129 4 [0, 1, (-1), 14]).bind fun (x146, x147, x148) =>
 chk (inR x127 14) <|
 some ((a1.set x127.toNat x146), x147, x148))
 else
 (some (a1, x112, x113))
def D_spec_l02Two (fu : Nat) (a0 : List Int) : Option (Int × (List Int) × (List Int)) :=
 (D_spec_l01From fu a0).bind fun (x110, x111) =>
 (D_spec_l01Pick fu a0 x110 x111 3 [6, 9, 13]).bind fun (x130, x131, x132) =>
 (D_spec_l01Next fu x130 a0 x131 x132).bind fun (x144, x145, x146) =>
 chk (in64 (2 + x144)) <|
 (D_spec_l01DrawRound fu (2 + x144) a0 x145 x146).bind fun (xs160, x161, x162) =>
 (D_spec_l01DrawRound fu (2 + x144) a0 x161 x162).bind fun (xs175, x176, x177) =>
 (D_spec_l01DrawRobin fu a0 x176 x177).bind fun (x204, rs205, x206, x207) =>
 (bif decide (0 < ((rs205.length : Nat) : Int)) then
 ((D_spec_l01Next fu 2 a0 x206 x207).bind fun (x267, x268, x269) =>
 some (x268, x269, decide (x267 = 0)))
 else
 (some (x206, x207, false))).bind fun (x252, x253, b258) =>
 (bif b258 then
 ((D_spec_l01Next fu ((rs205.length : Nat) : Int) a0 x252 x253).bind fun (x363, x364, x365) =>
 chk (inR x363 rs205.length) <|
 (D_spec_l01Next fu ((rs205.length : Nat) : Int) a0 x364 x365).bind fun (x382, x383, x384) =>
 chk (inR x382 rs205.length) <|
 some (x383, x384, x204, (rw_ rs205 x363.toNat), (rw_ rs205 x382.toNat)))
 else
 (some (x252, x253, 2 + x144, xs160, xs175))).bind fun (x348, x349, x350, xs352, xs354) =>
 (D_spec_l01Next fu 24 a0 x348 x349).bind fun (x419, x420, x421) =>
 (bif decide (x419 = 0) then
 (chk (in64 (x350 + 1)) <|
 (D_spec_l01Pick fu a0 x420 x421 4 [1, 15, x350 + 1, 0]).bind fun (x481, x482, x483) =>
 some (x482, x483, x481))
 else
 (some (x420, x421, x350))).bind fun (x461, x462, x463) =>
 (D_spec_l01BadRound fu xs352 a0 x461 x462).bind fun (xs512, x513, x514) =>
 some (x463, xs512, xs354)
end Go.Proofs.Ytdafmafigcljkaa
