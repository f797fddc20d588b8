/-
  What functions of the program compute, printed by a program. No condition.
-/
import Derived.Test.YtdafmafigcljkaaDSb
namespace Go.Proofs.Ytdafmafigcljkaa
open Go Am
set_option linter.unusedVariables false
def D_spec_l01Draw_s0 (fu : Nat) (n0_0 : List Int) (x107 : Int) : (Int × Int × (List (List Int)) × Int) → Option (Lo (Int × Int × (List (List Int)) × Int) (Int × Int × (List (List Int)))) := fun (x308, x309, rs315, x316) =>
 bif decide (0 < x316) then
 ((D_spec_l01DrawRound fu x107 n0_0 x308 x309).bind fun (xs389, x390, x391) =>
 chk (rs315.length + 1 ≤ 4294967296) <|
 chk (in64 (x316 - 1)) <|
 some (.go (x390, x391, (rs315 ++ [xs389]), x316 - 1)))
 else
 (some (.out (x308, x309, rs315)))
def D_spec_l01Draw_s1 (fu : Nat) (n0_0 : List Int) (x673 : Int) : (Int × Int × (List (List Int)) × Int) → Option (Lo (Int × Int × (List (List Int)) × Int) (Int × Int × (List (List Int)))) := fun (x832, x833, rs839, x840) =>
 bif decide (0 < x840) then
 ((D_spec_l01DrawRound fu (2 + x673) n0_0 x832 x833).bind fun (xs913, x914, x915) =>
 chk (rs839.length + 1 ≤ 4294967296) <|
 chk (in64 (x840 - 1)) <|
 some (.go (x914, x915, (rs839 ++ [xs913]), x840 - 1)))
 else
 (some (.out (x832, x833, rs839)))
def D_spec_l01Draw (fu : Nat) (n0_0 : List Int) (n0_1 : Int) (n0_2 : Int) : Option (Int × (List (List Int)) × Int × Int) :=
 (D_spec_l01DrawRobin fu n0_0 n0_1 n0_2).bind fun (x107, rs108, x109, x110) =>
 (D_spec_l01Next fu 4 n0_0 x109 x110).bind fun (x134, x135, x136) =>
 bif decide (x134 = 0) then
 (some (x107, rs108, x135, x136))
 else
 (bif decide (x134 = 1) then
 (chk (in64 (((rs108.length : Nat) : Int) + 1)) <|
 (D_spec_l01Next fu (((rs108.length : Nat) : Int) + 1) n0_0 x135 x136).bind fun (x172, x173, x174) =>
 chk (0 ≤ x172 ∧ x172 ≤ ((rs108.length : Nat) : Int)) <|
 (D_spec_l01Next fu 3 n0_0 x173 x174).bind fun (x195, x196, x197) =>
 (loopF (D_spec_l01Draw_s0 fu n0_0 x107) fu (x196, x197, (rs108.take x172.toNat), x195)).bind fun (x360, x361, rs367) =>
 some (x107, rs367, x360, x361))
 else
 (bif decide (x134 = 2) then
 ((chk (in64 (2 * ((rs108.length : Nat) : Int))) <|
 bif decide (2 * ((rs108.length : Nat) : Int) ≤ 40) then
 ((D_spec_l01Next fu 2 n0_0 x135 x136).bind fun (x493, x494, x495) =>
 some (x494, x495, decide (x493 = 0)))
 else
 (some (x135, x136, false))).bind fun (x477, x478, b482) =>
 (bif b482 then
 ((D_spec_l01DrawOrder fu x107 n0_0 x477 x478).bind fun (xs591, x592, x593) =>
 (D_spec_l01Renamed fu x107 rs108 xs591).bind fun (x606, rs607) =>
 chk (rs108.length + rs607.length ≤ 4294967296) <|
 some (x592, x593, (rs108 ++ rs607)))
 else
 (some (x477, x478, rs108))).bind fun (x575, x576, rs582) =>
 some (x107, rs582, x575, x576))
 else
 ((D_spec_l01Next fu 13 n0_0 x135 x136).bind fun (x673, x674, x675) =>
 chk (in64 (2 + x673)) <|
 (D_spec_l01Pick fu n0_0 x674 x675 3 [4, 10, 41]).bind fun (x705, x706, x707) =>
 (D_spec_l01Next fu x705 n0_0 x706 x707).bind fun (x719, x720, x721) =>
 (loopF (D_spec_l01Draw_s1 fu n0_0 x673) fu (x720, x721, [], x719)).bind fun (x884, x885, rs891) =>
 some (2 + x673, rs891, x884, x885))))
def D_spec_l01Copy (fu : Nat) (a0_0 : Int) (a0_1 : List (List Int)) : Option (Int × (List (List Int))) :=
 chk (0 + a0_1.length ≤ 4294967296) <|
 some (a0_0, a0_1)
def D_spec_l01Bad_s0 (fu : Nat) (a1_0 : Int) : (List (List Int)) → Option (Lo (List (List Int)) (List (List Int))) := fun rs361 =>
 bif decide (((rs361.length : Nat) : Int) ≤ 40) then
 ((D_spec_l01Free fu a1_0).bind fun xs417 =>
 chk (rs361.length + 1 ≤ 4294967296) <|
 some (.go (rs361 ++ [xs417])))
 else
 (some (.out rs361))
def D_spec_l01Bad (fu : Nat) (a1_0 : Int) (a1_1 : List (List Int)) (n0_0 : List Int) (n0_1 : Int) (n0_2 : Int) : Option (Int × (List (List Int)) × Int × Int) :=
 (D_spec_l01Copy fu a1_0 a1_1).bind fun (x108, rs109) =>
 (D_spec_l01Next fu 50 n0_0 n0_1 n0_2).bind fun (x131, x132, x133) =>
 bif decide (x131 = 0) then
 (chk (in64 (a1_0 + 1)) <|
 (D_spec_l01Pick fu n0_0 x132 x133 5 [1, 15, 0, (-1), a1_0 + 1]).bind fun (x154, x155, x156) =>
 some (x154, rs109, x155, x156))
 else
 (bif decide (x131 = 1) then
 (bif decide (0 < ((rs109.length : Nat) : Int)) then
 (chk (inR 0 rs109.length) <|
 (D_spec_l01Next fu 14 n0_0 x132 x133).bind fun (x202, x203, x204) =>
 (D_spec_l01Pick fu n0_0 x203 x204 4 [1, 0, (-1), 14]).bind fun (x221, x222, x223) =>
 chk (inR x202 14) <|
 chk (inR 0 rs109.length) <|
 some (x108, (rs109.set 0 ((rw_ rs109 0).set x202.toNat x221)), x222, x223))
 else
 (some (a1_0, a1_1, x132, x133)))
 else
 (bif decide (x131 = 2) then
 ((loopF (D_spec_l01Bad_s0 fu a1_0) fu rs109).bind fun rs398 =>
 some (x108, rs398, x132, x133))
 else
 (some (a1_0, a1_1, x132, x133))))
def D_spec_l01Spoil (fu : Nat) (n0_0 : List Int) (n0_1 : Int) (n0_2 : Int) : Option (Int × (List (List Int)) × Int × Int) :=
 (D_spec_l01Draw fu n0_0 n0_1 n0_2).bind fun (x107, rs108, x109, x110) =>
 (D_spec_l01Bad fu x107 rs108 n0_0 x109 x110).bind fun (x126, rs127, x128, x129) =>
 some (x126, rs127, x128, x129)
def D_spec_DrawIsPerfect (fu : Nat) (a0 : List Int) : Option (Int × (List (List Int))) :=
 (D_spec_l01From fu a0).bind fun (x106, x107) =>
 (D_spec_l01Next fu 2 a0 x106 x107).bind fun (x121, x122, x123) =>
 bif decide (x121 = 0) then
 ((D_spec_l01Next fu 13 a0 x122 x123).bind fun (x137, x138, x139) =>
 chk (in64 (2 + x137)) <|
 (D_spec_l01Circle fu (2 + x137)).bind fun (x150, rs151) =>
 some (x150, rs151))
 else
 ((D_spec_l01Spoil fu a0 x122 x123).bind fun (x181, rs182, x183, x184) =>
 some (x181, rs182))
end Go.Proofs.Ytdafmafigcljkaa
