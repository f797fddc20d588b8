/-
  What functions of the program compute, printed by a program. No condition.
-/
import Derived.Test.YtdafmafigcljkaaDC
namespace Go.Proofs.Ytdafmafigcljkaa
open Go Am
set_option linter.unusedVariables false
def D_spec_l03Search_s0 (fu : Nat) (a0 : Int) (a1 : List (List Int)) : ((List Bool) × (List Bool) × (List Bool) × Int) → Option (Lo ((List Bool) × (List Bool) × (List Bool) × Int) ((List Bool) × (List Bool) × (List Bool))) := fun (bs385, bs387, bs389, x390) =>
 bif decide (x390 < ((a1.length : Nat) : Int)) then
 (chk (inR x390 a1.length) <|
 chk (inR 0 ((rw_ a1 x390.toNat).length)) <|
 chk (inR (rd (rw_ a1 x390.toNat) 0) a0.toNat) <|
 chk (inR x390 a1.length) <|
 chk (inR 1 ((rw_ a1 x390.toNat).length)) <|
 chk (inR (rd (rw_ a1 x390.toNat) 1) a0.toNat) <|
 chk (inR x390 a1.length) <|
 chk (inR 1 ((rw_ a1 x390.toNat).length)) <|
 chk (inR x390 a1.length) <|
 chk (inR 0 ((rw_ a1 x390.toNat).length)) <|
 chk (in64 (rd (rw_ a1 x390.toNat) 1 - (rd (rw_ a1 x390.toNat) 0))) <|
 (D_spec_l03Mod fu (rd (rw_ a1 x390.toNat) 1 - (rd (rw_ a1 x390.toNat) 0)) a0).bind fun x573 =>
 chk (inR x573 a0.toNat) <|
 chk (inR x390 a1.length) <|
 chk (inR 0 ((rw_ a1 x390.toNat).length)) <|
 chk (inR x390 a1.length) <|
 chk (inR 1 ((rw_ a1 x390.toNat).length)) <|
 chk (in64 (rd (rw_ a1 x390.toNat) 0 - (rd (rw_ a1 x390.toNat) 1))) <|
 (D_spec_l03Mod fu (rd (rw_ a1 x390.toNat) 0 - (rd (rw_ a1 x390.toNat) 1)) a0).bind fun x600 =>
 chk (inR x600 a0.toNat) <|
 chk (inR x390 a1.length) <|
 chk (inR 0 ((rw_ a1 x390.toNat).length)) <|
 chk (inR x390 a1.length) <|
 chk (inR 1 ((rw_ a1 x390.toNat).length)) <|
 chk (in64 (rd (rw_ a1 x390.toNat) 0 + (rd (rw_ a1 x390.toNat) 1))) <|
 chk ((a0 : Int) ≠ 0) <|
 chk (inR ((rd (rw_ a1 x390.toNat) 0 + (rd (rw_ a1 x390.toNat) 1)).tmod a0) a0.toNat) <|
 chk (in64 (x390 + 1)) <|
 some (.go (((bs385.set ((rd (rw_ a1 x390.toNat) 0).toNat) true).set ((rd (rw_ a1 x390.toNat) 1).toNat) true), ((bs387.set x573.toNat true).set x600.toNat true), (bs389.set (((rd (rw_ a1 x390.toNat) 0 + (rd (rw_ a1 x390.toNat) 1)).tmod a0).toNat) true), x390 + 1)))
 else
 (some (.out (bs385, bs387, bs389)))
def D_spec_l03Search_s1 (fu : Nat) (a0 : Int) (bs508 : List Bool) : Int → Option (Lo Int Int) := fun x696 =>
 chk (inR x696 a0.toNat) <|
 bif rdb bs508 x696.toNat then
 (chk (in64 (x696 + 1)) <|
 some (.go (x696 + 1)))
 else
 (some (.out x696))
def D_spec_l03Search_s2 (self : Int → (List (List Int)) → Bool → Int → Option (List (List (List Int)))) (fu : Nat) (a0 : Int) (a1 : List (List Int)) (a2 : Bool) (a3 : Int) (bs508 : List Bool) (bs510 : List Bool) (bs512 : List Bool) (x715 : Int) : ((List (List (List Int))) × Int) → Option (Lo ((List (List (List Int))) × Int) (List (List (List Int)))) := fun (rss1130, x1133) =>
 bif (decide (x1133 < a0)) && (decide (((rss1130.length : Nat) : Int) < a3)) then
 (chk (in64 (x715 + x1133)) <|
 chk ((a0 : Int) ≠ 0) <|
 (chk (inR x1133 a0.toNat) <|
 bif rdb bs508 x1133.toNat then
 (some true)
 else
 (chk (in64 (x1133 - x715)) <|
 chk (inR (x1133 - x715) a0.toNat) <|
 bif rdb bs510 ((x1133 - x715).toNat) then
 (some true)
 else
 (bif a2 then
 (bif decide ((x715 + x1133).tmod a0 = 0) then
 (some true)
 else
 (chk (inR ((x715 + x1133).tmod a0) a0.toNat) <|
 some (rdb bs512 (((x715 + x1133).tmod a0).toNat))))
 else
 (some false)))).bind fun b1367 =>
 bif b1367 then
 (chk (in64 (x1133 + 1)) <|
 some (.go (rss1130, x1133 + 1)))
 else
 (chk (0 + a1.length ≤ 4294967296) <|
 chk (a1.length + 1 ≤ 4294967296) <|
 chk (in64 (a3 - ((rss1130.length : Nat) : Int))) <|
 (self a0 (a1 ++ [[x715, x1133]]) a2 (a3 - ((rss1130.length : Nat) : Int))).bind fun rss1477 =>
 chk (rss1130.length + rss1477.length ≤ 4294967296) <|
 chk (in64 (x1133 + 1)) <|
 some (.go ((rss1130 ++ rss1477), x1133 + 1))))
 else
 (some (.out rss1130))
def D_spec_l03Search : Nat → Int → (List (List Int)) → Bool → Int → Option (List (List (List Int)))
 | 0, _, _, _, _ => none
 | fu + 1, a0, a1, a2, a3 =>
 chk (in64 (a0 - 1)) <|
 chk ((2 : Int) ≠ 0 ∧ in64 ((a0 - 1).tdiv 2)) <|
 bif decide (((a1.length : Nat) : Int) = (a0 - 1).tdiv 2) then
 (some [a1])
 else
 (chk (0 ≤ a0 ∧ a0 ≤ 4294967296) <|
 chk (0 ≤ a0 ∧ a0 ≤ 4294967296) <|
 chk (0 ≤ a0 ∧ a0 ≤ 4294967296) <|
 (loopF (D_spec_l03Search_s0 fu a0 a1) fu ((List.replicate a0.toNat false), (List.replicate a0.toNat false), (List.replicate a0.toNat false), 0)).bind fun (bs508, bs510, bs512) =>
 (loopF (D_spec_l03Search_s1 fu a0 bs508) fu 1).bind fun x715 =>
 chk (in64 (x715 + 1)) <|
 (loopF (D_spec_l03Search_s2 (D_spec_l03Search fu) fu a0 a1 a2 a3 bs508 bs510 bs512 x715) fu ([], x715 + 1)).bind fun rss1310 =>
 some rss1310)
def D_spec_CountStarters_s0 (fu : Nat) (a0 : Int) (rss128 : List (List (List Int))) : (Int × Int × Int) → Option (Lo (Int × Int × Int) (Int × Int)) := fun (x276, x277, x278) =>
 bif decide (x278 < ((rss128.length : Nat) : Int)) then
 (chk (inR x278 rss128.length) <|
 (D_spec_l03Strong fu a0 (rw3 rss128 x278.toNat)).bind fun b367 =>
 (bif b367 then
 (chk (in64 (x276 + 1)) <|
 some (x276 + 1))
 else
 (some x276)).bind fun x378 =>
 chk (inR x278 rss128.length) <|
 (D_spec_l03Skew fu a0 (rw3 rss128 x278.toNat)).bind fun b401 =>
 bif b401 then
 (chk (in64 (x277 + 1)) <|
 chk (in64 (x278 + 1)) <|
 some (.go (x378, x277 + 1, x278 + 1)))
 else
 (chk (in64 (x278 + 1)) <|
 some (.go (x378, x277, x278 + 1))))
 else
 (some (.out (x276, x277)))
def D_spec_CountStarters (fu : Nat) (a0 : Int) : Option (Int × Int × Int × Int) :=
 (D_spec_l03Modulus fu a0).bind fun b100 =>
 bif !b100 then
 (some (0, 0, 0, 2))
 else
 ((D_spec_l03Search fu a0 [] false 1073741824).bind fun rss128 =>
 (loopF (D_spec_CountStarters_s0 fu a0 rss128) fu (0, 0, 0)).bind fun (x343, x344) =>
 some (((rss128.length : Nat) : Int), x343, x344, 0))
def D_spec_FirstStrong (fu : Nat) (a0 : Int) : Option ((List (List Int)) × Int) :=
 (D_spec_l03Modulus fu a0).bind fun b100 =>
 bif !b100 then
 (some ([], 2))
 else
 ((D_spec_l03Search fu a0 [] true 1).bind fun rss129 =>
 bif decide (((rss129.length : Nat) : Int) = 0) then
 (some ([], 4))
 else
 (chk (inR 0 rss129.length) <|
 some ((rw3 rss129 0), 0)))
end Go.Proofs.Ytdafmafigcljkaa
