/-
  What functions of the program compute, printed by a program. No condition.
-/
import Derived.Test.YtdafmafigcljkaaDMc
import Derived.Test.YtdafmafigcljkaaDM
namespace Go.Proofs.Ytdafmafigcljkaa
open Go Am
set_option linter.unusedVariables false
def D_spec_l03Gcd_s0 (fu : Nat) : (Int × Int) → Option (Lo (Int × Int) Int) := fun (x118, x119) =>
 bif !decide (x119 = 0) then
 (chk ((x119 : Int) ≠ 0) <|
 some (.go (x119, x118.tmod x119)))
 else
 (some (.out x118))
def D_spec_l03Gcd (fu : Nat) (a0 : Int) (a1 : Int) : Option Int :=
 (loopF (D_spec_l03Gcd_s0 fu) fu (a0, a1)).bind fun x128 =>
 some x128
def D_spec_l03Sorted_s1 (fu : Nat) (n0 : List (List Int)) (rs924 : List (List Int)) (x927 : Int) : ((List (List Int)) × Int) → Option (Lo ((List (List Int)) × Int) ((List (List Int)) × Int)) := fun (rs1566, x1571) =>
 (bif decide (0 < x1571) then
 (chk (in64 (x1571 - 1)) <|
 chk (inR (x1571 - 1) ((rs924 ++ [[(if rd (rw_ n0 x927.toNat) 1 < rd (rw_ n0 x927.toNat) 0 then rd (rw_ n0 x927.toNat) 1 else rd (rw_ n0 x927.toNat) 0), (if rd (rw_ n0 x927.toNat) 1 > rd (rw_ n0 x927.toNat) 0 then rd (rw_ n0 x927.toNat) 1 else rd (rw_ n0 x927.toNat) 0)]]).length)) <|
 chk (inR 0 ((rw_ rs1566 ((x1571 - 1).toNat)).length)) <|
 some (decide (rd [(if rd (rw_ n0 x927.toNat) 1 < rd (rw_ n0 x927.toNat) 0 then rd (rw_ n0 x927.toNat) 1 else rd (rw_ n0 x927.toNat) 0), (if rd (rw_ n0 x927.toNat) 1 > rd (rw_ n0 x927.toNat) 0 then rd (rw_ n0 x927.toNat) 1 else rd (rw_ n0 x927.toNat) 0)] 0 < rd (rw_ rs1566 ((x1571 - 1).toNat)) 0)))
 else
 (some false)).bind fun b1682 =>
 bif b1682 then
 (chk (in64 (x1571 - 1)) <|
 chk (inR (x1571 - 1) ((rs924 ++ [[(if rd (rw_ n0 x927.toNat) 1 < rd (rw_ n0 x927.toNat) 0 then rd (rw_ n0 x927.toNat) 1 else rd (rw_ n0 x927.toNat) 0), (if rd (rw_ n0 x927.toNat) 1 > rd (rw_ n0 x927.toNat) 0 then rd (rw_ n0 x927.toNat) 1 else rd (rw_ n0 x927.toNat) 0)]]).length)) <|
 chk (inR x1571 ((rs924 ++ [[(if rd (rw_ n0 x927.toNat) 1 < rd (rw_ n0 x927.toNat) 0 then rd (rw_ n0 x927.toNat) 1 else rd (rw_ n0 x927.toNat) 0), (if rd (rw_ n0 x927.toNat) 1 > rd (rw_ n0 x927.toNat) 0 then rd (rw_ n0 x927.toNat) 1 else rd (rw_ n0 x927.toNat) 0)]]).length)) <|
 chk (in64 (x1571 - 1)) <|
 some (.go ((rs1566.set x1571.toNat (rw_ rs1566 ((x1571 - 1).toNat))), x1571 - 1)))
 else
 (some (.out (rs1566, x1571)))
def D_spec_l03Sorted_s0 (fu : Nat) (k_n0 : Nat) (n0 : List (List Int)) : ((List (List Int)) × Int) → Option (Lo ((List (List Int)) × Int) (List (List Int))) := fun (rs924, x927) =>
 bif decide (x927 < ((k_n0 : Nat) : Int)) then
 (chk (inR x927 k_n0) <|
 chk (inR 0 ((rw_ n0 x927.toNat).length)) <|
 chk (inR x927 k_n0) <|
 chk (inR 1 ((rw_ n0 x927.toNat).length)) <|
 chk (inR x927 k_n0) <|
 chk (inR 0 ((rw_ n0 x927.toNat).length)) <|
 chk (inR x927 k_n0) <|
 chk (inR 1 ((rw_ n0 x927.toNat).length)) <|
 chk (rs924.length + 1 ≤ 4294967296) <|
 (loopF (D_spec_l03Sorted_s1 fu n0 rs924 x927) fu ((rs924 ++ [[(if rd (rw_ n0 x927.toNat) 1 < rd (rw_ n0 x927.toNat) 0 then rd (rw_ n0 x927.toNat) 1 else rd (rw_ n0 x927.toNat) 0), (if rd (rw_ n0 x927.toNat) 1 > rd (rw_ n0 x927.toNat) 0 then rd (rw_ n0 x927.toNat) 1 else rd (rw_ n0 x927.toNat) 0)]]), ((rs924.length : Nat) : Int))).bind fun (rs1643, x1648) =>
 chk (inR x1648 ((rs924 ++ [[(if rd (rw_ n0 x927.toNat) 1 < rd (rw_ n0 x927.toNat) 0 then rd (rw_ n0 x927.toNat) 1 else rd (rw_ n0 x927.toNat) 0), (if rd (rw_ n0 x927.toNat) 1 > rd (rw_ n0 x927.toNat) 0 then rd (rw_ n0 x927.toNat) 1 else rd (rw_ n0 x927.toNat) 0)]]).length)) <|
 chk (in64 (x927 + 1)) <|
 some (.go ((rs1643.set x1648.toNat [(if rd (rw_ n0 x927.toNat) 1 < rd (rw_ n0 x927.toNat) 0 then rd (rw_ n0 x927.toNat) 1 else rd (rw_ n0 x927.toNat) 0), (if rd (rw_ n0 x927.toNat) 1 > rd (rw_ n0 x927.toNat) 0 then rd (rw_ n0 x927.toNat) 1 else rd (rw_ n0 x927.toNat) 0)]), x927 + 1)))
 else
 (some (.out rs924))
def D_spec_l03Sorted (fu : Nat) (k_n0 : Nat) (n0 : List (List Int)) : Option (List (List Int)) :=
 (loopF (D_spec_l03Sorted_s0 fu k_n0 n0) fu ([], 0)).bind fun rs1334 =>
 some rs1334
def D_spec_l03Multiple_s0 (fu : Nat) (a0 : Int) (a2 : Int) (k_n0 : Nat) (n0 : List (List Int)) : ((List (List Int)) × Int) → Option (Lo ((List (List Int)) × Int) (List (List Int))) := fun (rs222, x224) =>
 bif decide (x224 < ((k_n0 : Nat) : Int)) then
 (chk (inR x224 k_n0) <|
 chk (inR 0 ((rw_ n0 x224.toNat).length)) <|
 chk (in64 ((rd (rw_ n0 x224.toNat) 0) * a2)) <|
 chk ((a0 : Int) ≠ 0) <|
 chk (inR x224 k_n0) <|
 chk (inR 1 ((rw_ n0 x224.toNat).length)) <|
 chk (in64 ((rd (rw_ n0 x224.toNat) 1) * a2)) <|
 chk ((a0 : Int) ≠ 0) <|
 chk (rs222.length + 1 ≤ 4294967296) <|
 chk (in64 (x224 + 1)) <|
 some (.go ((rs222 ++ [[((rd (rw_ n0 x224.toNat) 0) * a2).tmod a0, ((rd (rw_ n0 x224.toNat) 1) * a2).tmod a0]]), x224 + 1)))
 else
 (some (.out rs222))
def D_spec_l03Multiple (fu : Nat) (a0 : Int) (a2 : Int) (k_n0 : Nat) (n0 : List (List Int)) : Option (List (List Int)) :=
 (loopF (D_spec_l03Multiple_s0 fu a0 a2 k_n0 n0) fu ([], 0)).bind fun rs281 =>
 (D_spec_l03Sorted fu rs281.length rs281).bind fun rs364 =>
 some rs364
def D_spec_MultipleOf (fu : Nat) (a0 : Int) (a2 : Int) (k_n0 : Nat) (n0 : List (List Int)) : Option ((List (List Int)) × Int) :=
 (D_spec_l03Code fu a0 n0).bind fun x100 =>
 (bif !decide (x100 = 2) then
 (chk (in64 (a0 - 1)) <|
 (D_spec_l01In fu a2 1 (a0 - 1)).bind fun b130 =>
 bif !b130 then
 (some true)
 else
 ((D_spec_l03Gcd fu a2 a0).bind fun x140 =>
 some (!decide (x140 = 1))))
 else
 (some false)).bind fun b122 =>
 (bif b122 then
 (some 2)
 else
 (some x100)).bind fun x159 =>
 bif !decide (x159 = 0) then
 (some ([], x159))
 else
 ((D_spec_l03Multiple fu a0 a2 k_n0 n0).bind fun rs186 =>
 some (rs186, 0))
def D_laws_FnExactMultipleOf (fu : Nat) (a0 : Int) (a1 : List (List Int)) (a2 : Int) : Option Bool :=
 (D_laws_szInt64SS fu a1 1048576).bind fun x100 =>
 bif decide (x100 < 0) then
 (some true)
 else
 ((D_laws_toInt64SS fu a1).bind fun rs107 =>
 (D_spec_MultipleOf fu a0 a2 rs107.length rs107).bind fun (rs124, x125) =>
 (D_laws_toInt64SS fu a1).bind fun rs140 =>
 (D_impl_MultipleOf fu a0 rs140 a2).bind fun (rs154, x155) =>
 ((D_laws_eqInt64SS fu rs154 rs124).bind fun b184 =>
 bif !b184 then
 (some true)
 else
 (some (!decide (x155 = x125)))).bind fun b180 =>
 bif b180 then
 (some false)
 else
 ((D_laws_toInt64SS fu a1).bind fun rs209 =>
 (D_laws_eqInt64SS fu rs140 rs209).bind fun b223 =>
 bif !b223 then
 (some false)
 else
 ((D_laws_markInt64SS fu rs140 1).bind fun (x232, rs233) =>
 (bif decide (x232 < 0) then
 (some true)
 else
 ((D_laws_eqInt64SS fu rs154 rs124).bind fun b268 =>
 bif !b268 then
 (some true)
 else
 (some (!decide (x155 = x125))))).bind fun b257 =>
 bif b257 then
 (some false)
 else
 ((D_laws_markInt64SS fu rs154 1).bind fun (x291, rs292) =>
 (D_laws_heldInt64SS fu rs292 1).bind fun x303 =>
 bif decide (x303 < 0) then
 (some false)
 else
 (bif !decide (x303 = x291) then
 (some false)
 else
 ((D_laws_toInt64SS fu a1).bind fun rs313 =>
 (D_impl_MultipleOf fu a0 rs313 a2).bind fun (rs327, x328) =>
 ((D_laws_eqInt64SS fu rs327 rs124).bind fun b354 =>
 bif !b354 then
 (some true)
 else
 (some (!decide (x328 = x125)))).bind fun b350 =>
 bif b350 then
 (some false)
 else
 ((D_laws_heldInt64SS fu rs292 1).bind fun x375 =>
 bif decide (x375 < 0) then
 (some false)
 else
 (bif !decide (x375 = x291) then
 (some false)
 else
 (some true)))))))))
end Go.Proofs.Ytdafmafigcljkaa
