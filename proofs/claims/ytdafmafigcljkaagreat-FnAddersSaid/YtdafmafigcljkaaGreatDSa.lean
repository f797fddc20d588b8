
/-
  What functions of the program compute, printed by a program. No condition.
-/
import Derived.Test.YtdafmafigcljkaaGreatDE
import Derived.Test.YtdafmafigcljkaaGreatDI
import Derived.Test.YtdafmafigcljkaaGreatCa
namespace Go.Proofs.YtdafmafigcljkaaGreat
open Go Am
set_option linter.unusedVariables false
def D_spec_l01From_s0 (fu : Nat) (a0 : List Int) : (Int × Int) → Option (Lo (Int × Int) Int) := fun (x154, x155) =>
 bif (decide (x155 < ((a0.length : Nat) : Int))) && (decide (x155 < 4096)) then
 (chk (inR x155 a0.length) <|
 chk (in64 (x155 + 1)) <|
 some (.go (IntKind.u64.wrap (IntKind.u64.wrap (IntKind.u64.wrap (x154 * 1099511628211) + (IntKind.u64.wrap (rd a0 x155.toNat))) + 223), x155 + 1)))
 else
 (some (.out x154))
def D_spec_l01From (fu : Nat) (a0 : List Int) : Option (Int × Int) :=
 (loopF (D_spec_l01From_s0 fu a0) fu (IntKind.u64.wrap (13791 + (IntKind.u64.wrap ((a0.length : Nat) : Int))), 0)).bind fun x178 =>
 some (0, x178)
def D_spec_l01Next (fu : Nat) (a1 : Int) (n0_0 : List Int) (n0_1 : Int) (n0_2 : Int) : Option (Int × Int × Int) :=
 bif decide (a1 < 1) then
 (some (0, n0_1, n0_2))
 else
 ((bif decide (n0_1 < ((n0_0.length : Nat) : Int)) then
 (chk (inR n0_1 n0_0.length) <|
 chk (in64 (rd n0_0 n0_1.toNat)) <|
 chk (in64 (IntKind.i64.wrap (iand .u64 (ishr .u64 (IntKind.u64.wrap (IntKind.u64.wrap (n0_2 * 6364136223846793005) + 1442695040888963407)) 33) 16777215) + (rd n0_0 n0_1.toNat))) <|
 chk (in64 (n0_1 + 1)) <|
 some (n0_1 + 1, IntKind.i64.wrap (iand .u64 (ishr .u64 (IntKind.u64.wrap (IntKind.u64.wrap (n0_2 * 6364136223846793005) + 1442695040888963407)) 33) 16777215) + (rd n0_0 n0_1.toNat)))
 else
 (some (n0_1, IntKind.i64.wrap (iand .u64 (ishr .u64 (IntKind.u64.wrap (IntKind.u64.wrap (n0_2 * 6364136223846793005) + 1442695040888963407)) 33) 16777215)))).bind fun (x128, x129) =>
 chk ((a1 : Int) ≠ 0) <|
 some (x129.tmod a1, x128, IntKind.u64.wrap (IntKind.u64.wrap (n0_2 * 6364136223846793005) + 1442695040888963407)))
def D_spec_l01Pick (fu : Nat) (n0_0 : List Int) (n0_1 : Int) (n0_2 : Int) (k_n1 : Nat) (n1 : List Int) : Option (Int × Int × Int) :=
 (D_spec_l01Next fu ((k_n1 : Nat) : Int) n0_0 n0_1 n0_2).bind fun (x103, x104, x105) =>
 chk (inR x103 k_n1) <|
 some (rd n1 x103.toNat, x104, x105)
def D_spec_l03Sorted_s1 (fu : Nat) (n0 : List (List Int)) (rs924 : List (List Int)) (x927 : Int) : ((List (List Int)) × Int) → Option (Lo ((List (List Int)) × Int) ((List (List Int)) × Int)) := fun (rs1566, x1571) =>
 (bif decide (0 < x1571) then
 (chk (in64 (x1571 - 1)) <|
 chk (inR (x1571 - 1) ((rs924 ++ [[(if rd (rw_ n0 x927.toNat) 1 < rd (rw_ n0 x927.toNat) 0 then rd (rw_ n0 x927.toNat) 1 else rd (rw_ n0 x927.toNat) 0), (if rd (rw_ n0 x927.toNat) 1 > rd (rw_ n0 x927.toNat) 0 then rd (rw_ n0 x927.toNat) 1 else rd (rw_ n0 x927.toNat) 0)]]).length)) <|
 chk (inR 0 ((rw_ rs1566 ((x1571 - 1).toNat)).length)) <|
 some (decide (rd [(if rd (rw_ n0 x927.toNat) 1 < rd (rw_ n0 x927.toNat) 0 then rd (rw_ n0 x927.toNat) 1 else rd (rw_ n0 x927.toNat) 0), (if rd (rw_ n0 x927.toNat) 1 > rd (rw_ n0 x927.toNat) 0 then rd (rw_ n0 x927.toNat) 1 else rd (rw_ n0 x927.toNat) 0)] 0 < rd (rw_ rs1566 ((x1571 - 1).toNat)) 0)))
 else
 (some false)).bind fun b1682 =>
 bif b1682 then
 (chk (in64 (x1571 - 1)) <|
 chk (inR (x1571 - 1) ((rs924 ++ [[(if rd (rw_ n0 x927.toNat) 1 < rd (rw_ n0 x927.toNat) 0 then rd (rw_ n0 x927.toNat) 1 else rd (rw_ n0 x927.toNat) 0), (if rd (rw_ n0 x927.toNat) 1 > rd (rw_ n0 x927.toNat) 0 then rd (rw_ n0 x927.toNat) 1 else rd (rw_ n0 x927.toNat) 0)]]).length)) <|
 chk (inR x1571 ((rs924 ++ [[(if rd (rw_ n0 x927.toNat) 1 < rd (rw_ n0 x927.toNat) 0 then rd (rw_ n0 x927.toNat) 1 else rd (rw_ n0 x927.toNat) 0), (if rd (rw_ n0 x927.toNat) 1 > rd (rw_ n0 x927.toNat) 0 then rd (rw_ n0 x927.toNat) 1 else rd (rw_ n0 x927.toNat) 0)]]).length)) <|
 chk (in64 (x1571 - 1)) <|
 some (.go ((rs1566.set x1571.toNat (rw_ rs1566 ((x1571 - 1).toNat))), x1571 - 1)))
 else
 (some (.out (rs1566, x1571)))
def D_spec_l03Sorted_s0 (fu : Nat) (k_n0 : Nat) (n0 : List (List Int)) : ((List (List Int)) × Int) → Option (Lo ((List (List Int)) × Int) (List (List Int))) := fun (rs924, x927) =>
 bif decide (x927 < ((k_n0 : Nat) : Int)) then
 (chk (inR x927 k_n0) <|
 chk (inR 0 ((rw_ n0 x927.toNat).length)) <|
 chk (inR x927 k_n0) <|
 chk (inR 1 ((rw_ n0 x927.toNat).length)) <|
 chk (inR x927 k_n0) <|
 chk (inR 0 ((rw_ n0 x927.toNat).length)) <|
 chk (inR x927 k_n0) <|
 chk (inR 1 ((rw_ n0 x927.toNat).length)) <|
 chk (rs924.length + 1 ≤ 4294967296) <|
 (loopF (D_spec_l03Sorted_s1 fu n0 rs924 x927) fu ((rs924 ++ [[(if rd (rw_ n0 x927.toNat) 1 < rd (rw_ n0 x927.toNat) 0 then rd (rw_ n0 x927.toNat) 1 else rd (rw_ n0 x927.toNat) 0), (if rd (rw_ n0 x927.toNat) 1 > rd (rw_ n0 x927.toNat) 0 then rd (rw_ n0 x927.toNat) 1 else rd (rw_ n0 x927.toNat) 0)]]), ((rs924.length : Nat) : Int))).bind fun (rs1643, x1648) =>
 chk (inR x1648 ((rs924 ++ [[(if rd (rw_ n0 x927.toNat) 1 < rd (rw_ n0 x927.toNat) 0 then rd (rw_ n0 x927.toNat) 1 else rd (rw_ n0 x927.toNat) 0), (if rd (rw_ n0 x927.toNat) 1 > rd (rw_ n0 x927.toNat) 0 then rd (rw_ n0 x927.toNat) 1 else rd (rw_ n0 x927.toNat) 0)]]).length)) <|
 chk (in64 (x927 + 1)) <|
 some (.go ((rs1643.set x1648.toNat [(if rd (rw_ n0 x927.toNat) 1 < rd (rw_ n0 x927.toNat) 0 then rd (rw_ n0 x927.toNat) 1 else rd (rw_ n0 x927.toNat) 0), (if rd (rw_ n0 x927.toNat) 1 > rd (rw_ n0 x927.toNat) 0 then rd (rw_ n0 x927.toNat) 1 else rd (rw_ n0 x927.toNat) 0)]), x927 + 1)))
 else
 (some (.out rs924))
def D_spec_l03Sorted (fu : Nat) (k_n0 : Nat) (n0 : List (List Int)) : Option (List (List Int)) :=
 (loopF (D_spec_l03Sorted_s0 fu k_n0 n0) fu ([], 0)).bind fun rs1334 =>
 some rs1334
def D_spec_l03Multiple_s0 (fu : Nat) (a0 : Int) (a1 : List (List Int)) (a2 : Int) : ((List (List Int)) × Int) → Option (Lo ((List (List Int)) × Int) (List (List Int))) := fun (rs225, x227) =>
 bif decide (x227 < ((a1.length : Nat) : Int)) then
 (chk (inR x227 a1.length) <|
 chk (inR 0 ((rw_ a1 x227.toNat).length)) <|
 chk (in64 ((rd (rw_ a1 x227.toNat) 0) * a2)) <|
 chk ((a0 : Int) ≠ 0) <|
 chk (inR x227 a1.length) <|
 chk (inR 1 ((rw_ a1 x227.toNat).length)) <|
 chk (in64 ((rd (rw_ a1 x227.toNat) 1) * a2)) <|
 chk ((a0 : Int) ≠ 0) <|
 chk (rs225.length + 1 ≤ 4294967296) <|
 chk (in64 (x227 + 1)) <|
 some (.go ((rs225 ++ [[((rd (rw_ a1 x227.toNat) 0) * a2).tmod a0, ((rd (rw_ a1 x227.toNat) 1) * a2).tmod a0]]), x227 + 1)))
 else
 (some (.out rs225))
def D_spec_l03Multiple (fu : Nat) (a0 : Int) (a1 : List (List Int)) (a2 : Int) : Option (List (List Int)) :=
 (loopF (D_spec_l03Multiple_s0 fu a0 a1 a2) fu ([], 0)).bind fun rs283 =>
 (D_spec_l03Sorted fu rs283.length rs283).bind fun rs360 =>
 some rs360
def D_spec_l03DrawOf (fu : Nat) (a1 : Int) (n0_0 : List Int) (n0_1 : Int) (n0_2 : Int) : Option ((List (List Int)) × Int × Int) :=
 (D_spec_l03Search fu a1 [] false 12).bind fun rss121 =>
 (D_spec_l01Next fu 3 n0_0 n0_1 n0_2).bind fun (x139, x140, x141) =>
 (bif decide (x139 = 0) then
 ((D_spec_l03Search fu a1 [] true 6).bind fun rss252 =>
 (bif decide (0 < ((rss252.length : Nat) : Int)) then
 (some rss252)
 else
 (some rss121)).bind fun rss274 =>
 some rss274)
 else
 (some rss121)).bind fun rss220 =>
 (D_spec_l01Next fu ((rss220.length : Nat) : Int) n0_0 x140 x141).bind fun (x304, x305, x306) =>
 chk (inR x304 rss220.length) <|
 chk (in64 (a1 - 1)) <|
 (D_spec_l01Next fu (a1 - 1) n0_0 x305 x306).bind fun (x329, x330, x331) =>
 chk (in64 (1 + x329)) <|
 (D_spec_l01Next fu 4 n0_0 x330 x331).bind fun (x345, x346, x347) =>
 (bif decide (x345 = 0) then
 ((D_spec_l03Patterned fu a1).bind fun rs404 =>
 some rs404)
 else
 (some (rw3 rss220 x304.toNat))).bind fun rs393 =>
 (D_spec_l03Gcd fu (1 + x329) a1).bind fun x441 =>
 bif decide (x441 = 1) then
 ((D_spec_l03Multiple fu a1 rs393 (1 + x329)).bind fun rs449 =>
 (D_spec_l03Own fu rs449).bind fun rs464 =>
 some (rs464, x346, x347))
 else
 ((D_spec_l03Own fu rs393).bind fun rs485 =>
 some (rs485, x346, x347))
def D_spec_l03With (fu : Nat) (n0_0 : List Int) (n0_1 : Int) (n0_2 : Int) : Option (Int × (List (List Int)) × Int × Int) :=
 (D_spec_l01Pick fu n0_0 n0_1 n0_2 9 [3, 5, 5, 7, 7, 9, 9, 11, 13]).bind fun (x108, x109, x110) =>
 (D_spec_l03DrawOf fu x108 n0_0 x109 x110).bind fun (rs122, x123, x124) =>
 some (x108, rs122, x123, x124)
def D_spec_l03Bad (fu : Nat) (a1 : Int) (a2 : List (List Int)) (n0_0 : List Int) (n0_1 : Int) (n0_2 : Int) : Option (Int × (List (List Int)) × Int × Int) :=
 (D_spec_l03Own fu a2).bind fun rs100 =>
 (D_spec_l01Next fu 24 n0_0 n0_1 n0_2).bind fun (x117, x118, x119) =>
 (bif decide (x117 = 0) then
 (chk (in64 (a1 + 2)) <|
 (D_spec_l01Pick fu n0_0 x118 x119 7 [0, 1, 2, 4, 15, (-1), a1 + 2]).bind fun (x2119, x2120, x2121) =>
 some (x2120, x2121, x2119, rs100))
 else
 ((bif decide (x117 = 1) then
 (chk (inR 0 rs100.length) <|
 (D_spec_l01Next fu 2 n0_0 x118 x119).bind fun (x3118, x3119, x3120) =>
 (D_spec_l01Pick fu n0_0 x3119 x3120 5 [0, a1, 1, 2, (-1)]).bind fun (x3137, x3138, x3139) =>
 chk (inR x3118 ((rw_ rs100 0).length)) <|
 some (x3138, x3139, (rs100.set 0 ((rw_ rs100 0).set x3118.toNat x3137))))
 else
 ((bif decide (x117 = 2) then
 (chk (rs100.length + 1 ≤ 4294967296) <|
 some (rs100 ++ [[1, 2]]))
 else
 ((bif decide (x117 = 3) then
 (chk (inR 0 rs100.length) <|
 chk ((0 : Int) ≤ 1 ∧ 1 ≤ (((rw_ rs100 0).length : Nat) : Int) ∧ 0 < (rw_ rs100 0).length) <|
 chk (inR 0 rs100.length) <|
 some (rs100.set 0 ((rw_ rs100 0).take 1)))
 else
 ((bif decide (x117 = 4) then
 ((bif decide (1 < ((rs100.length : Nat) : Int)) then
 (chk (inR 0 rs100.length) <|
 chk (inR 1 rs100.length) <|
 chk (inR 0 rs100.length) <|
 chk (inR 1 rs100.length) <|
 some ((rs100.set 0 (rw_ rs100 1)).set 1 (rw_ rs100 0)))
 else
 (some rs100)).bind fun rs3998 =>
 some rs3998)
 else
 (some rs100)).bind fun rs3958 =>
 some rs3958)).bind fun rs3845 =>
 some rs3845)).bind fun rs3609 =>
 some (x118, x119, rs3609))).bind fun (x3097, x3098, rs3102) =>
 some (x3097, x3098, a1, rs3102))).bind fun (x2096, x2097, x2098, rs2102) =>
 some (x2098, rs2102, x2096, x2097)
def D_spec_l03Given (fu : Nat) (a0 : List Int) : Option (Int × (List (List Int))) :=
 (D_spec_l01From fu a0).bind fun (x102, x103) =>
 (D_spec_l03With fu a0 x102 x103).bind fun (x117, rs118, x119, x120) =>
 (D_spec_l03Bad fu x117 rs118 a0 x119 x120).bind fun (x138, rs139, x140, x141) =>
 some (x138, rs139)
def D_spec_DrawStrongAdder (fu : Nat) (a0 : List Int) : Option (Int × (List (List Int))) :=
 (D_spec_l03Given fu a0).bind fun (x102, rs103) =>
 some (x102, rs103)
end Go.Proofs.YtdafmafigcljkaaGreat
