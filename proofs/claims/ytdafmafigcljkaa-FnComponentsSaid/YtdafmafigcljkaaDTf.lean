/-
  What functions of the program compute, printed by a program. No condition.
-/
import Derived.Test.YtdafmafigcljkaaDSc
import Derived.Test.YtdafmafigcljkaaDTd
import Derived.Test.YtdafmafigcljkaaDTe
namespace Go.Proofs.Ytdafmafigcljkaa
open Go Am
set_option linter.unusedVariables false
def D_laws_big (fu : Nat) (a0 : List Int) : Option Bool :=
 some (decide (4096 < ((a0.length : Nat) : Int)))
def D_laws_FnComponents_s0 (fu : Nat) (x360 : Int) (rs401 : List (List Int)) : (Bool × Int) → Option (Lo (Bool × Int) (Bool ⊕ Bool)) := fun (b1059, x1060) =>
 bif decide (x1060 < ((rs401.length : Nat) : Int)) then
 ((bif b1059 then
 (chk (inR x1060 rs401.length) <|
 some (decide ((((rw_ rs401 x1060.toNat).length : Nat) : Int) = 1)))
 else
 (some false)).bind fun b1174 =>
 chk (inR x1060 rs401.length) <|
 (D_laws_sum fu (rw_ rs401 x1060.toNat)).bind fun x1212 =>
 bif !decide (x1212 = x360) then
 (some (.out (.inr false)))
 else
 (chk (in64 (x1060 + 1)) <|
 some (.go (b1174, x1060 + 1))))
 else
 (some (.out (.inl b1059)))
def D_laws_FnComponents_s1 (fu : Nat) (rs145 : List (List Int)) : (Int × Int) → Option (Lo (Int × Int) Int) := fun (x1322, x1323) =>
 bif decide (x1323 < ((rs145.length : Nat) : Int)) then
 (chk (inR x1323 rs145.length) <|
 chk (in64 (x1322 + (((rw_ rs145 x1323.toNat).length : Nat) : Int))) <|
 chk (in64 (x1323 + 1)) <|
 some (.go (x1322 + (((rw_ rs145 x1323.toNat).length : Nat) : Int), x1323 + 1)))
 else
 (some (.out x1322))
def D_laws_FnComponents_s3 (fu : Nat) (rs145 : List (List Int)) (xs290 : List Int) (x1804 : Int) : Int → Option (Lo Int (Unit ⊕ Bool)) := fun x2054 =>
 bif decide (x2054 < ((xs290.length : Nat) : Int)) then
 (chk (inR x1804 rs145.length) <|
 chk (inR x2054 xs290.length) <|
 (D_laws_hasInt fu (rw_ rs145 x1804.toNat) (rd xs290 x2054.toNat)).bind fun b2106 =>
 bif !b2106 then
 (some (.out (.inr false)))
 else
 (chk (in64 (x2054 + 1)) <|
 some (.go (x2054 + 1))))
 else
 (some (.out (.inl ())))
def D_laws_FnComponents_s2 (fu : Nat) (x120 : Int) (rs145 : List (List Int)) (xs290 : List Int) : Int → Option (Lo Int (Unit ⊕ Bool)) := fun x1804 =>
 bif decide (x1804 < ((rs145.length : Nat) : Int)) then
 (chk (inR x1804 rs145.length) <|
 (D_laws_hasInt fu (rw_ rs145 x1804.toNat) x120).bind fun b1982 =>
 bif !b1982 then
 (chk (in64 (x1804 + 1)) <|
 some (.go (x1804 + 1)))
 else
 ((loopF (D_laws_FnComponents_s3 fu rs145 xs290 x1804) fu 0).bind fun
 | .inl _ => (chk (in64 (x1804 + 1)) <|
 some (.go (x1804 + 1)))
 | .inr v2139 => some (.out (.inr v2139))))
 else
 (some (.out (.inl ())))
def D_laws_FnComponents (fu : Nat) (a0 : List Int) : Option Bool :=
 (D_laws_big fu a0).bind fun b102 =>
 bif b102 then
 (some true)
 else
 ((D_spec_DrawChainFrom fu a0).bind fun (x117, xs118, xs119, x120) =>
 (D_impl_ComponentsOf fu x117 xs118 xs119).bind fun (rs145, x146) =>
 (D_spec_ComponentsOf fu x117 xs118 xs119).bind fun (rs160, x161) =>
 (bif !decide (x146 = x161) then
 (some true)
 else
 ((D_laws_rows9 fu rs145 rs160).bind fun b201 =>
 some (!b201))).bind fun b188 =>
 bif b188 then
 (some false)
 else
 ((D_impl_TypeOfRounds fu x117 xs118 xs119).bind fun (xs219, x220) =>
 (D_spec_TypeOfRounds fu x117 xs118 xs119).bind fun (xs231, x232) =>
 (bif !decide (x220 = x232) then
 (some true)
 else
 ((D_laws_likeInts fu xs219 xs231).bind fun b271 =>
 some (!b271))).bind fun b257 =>
 bif b257 then
 (some false)
 else
 ((D_impl_ChainFrom fu x117 xs118 xs119 x120).bind fun (xs290, x291) =>
 (D_spec_ChainFrom fu x117 xs118 xs119 x120).bind fun (xs302, x303) =>
 (bif !decide (x291 = x303) then
 (some true)
 else
 ((D_laws_likeInts fu xs290 xs302).bind fun b340 =>
 some (!b340))).bind fun b327 =>
 bif b327 then
 (some false)
 else
 ((D_spec_DrawIsPerfect fu a0).bind fun (x360, rs361) =>
 (D_impl_IsPerfect fu x360 rs361).bind fun (b381, x382) =>
 (D_spec_IsPerfect fu x360 rs361).bind fun (b386, x387) =>
 bif (!decide (x382 = x387)) || (!(b381 == b386)) then
 (some false)
 else
 ((D_impl_TypesOf fu x360 rs361).bind fun (rs401, x402) =>
 (D_spec_TypesOf fu x360 rs361).bind fun (rs416, x417) =>
 (bif !decide (x402 = x417) then
 (some true)
 else
 ((D_laws_rows9 fu rs401 rs416).bind fun b462 =>
 some (!b462))).bind fun b446 =>
 bif b446 then
 (some false)
 else
 (((bif decide (x382 = 0) then
 ((bif !decide (x402 = 0) then
 (some true)
 else
 (chk (in64 (((rs361.length : Nat) : Int) - 1)) <|
 chk (in64 (((rs361.length : Nat) : Int) * (((rs361.length : Nat) : Int) - 1))) <|
 chk ((2 : Int) ≠ 0 ∧ in64 ((((rs361.length : Nat) : Int) * (((rs361.length : Nat) : Int) - 1)).tdiv 2)) <|
 some (!decide (((rs401.length : Nat) : Int) = (((rs361.length : Nat) : Int) * (((rs361.length : Nat) : Int) - 1)).tdiv 2)))).bind fun b884 =>
 bif b884 then
 (some (.inr false))
 else
 ((loopF (D_laws_FnComponents_s0 fu x360 rs401) fu (true, 0)).bind fun
 | .inl b1136 => (bif !(b1136 == b381) then
 (some (.inr false))
 else
 (some (.inl ())))
 | .inr v1255 => some (.inr v1255)))
 else
 (some (.inl ())) : Option (Unit ⊕ Bool))).bind fun
 | .inl _ => (bif !decide (x146 = 0) then
 (some ((decide (((rs145.length : Nat) : Int) = 0)) && (decide (x220 = x146))))
 else
 ((loopF (D_laws_FnComponents_s1 fu rs145) fu (0, 0)).bind fun x1344 =>
 (bif !decide (x1344 = x117) then
 (some true)
 else
 (bif !decide (x220 = 0) then
 (some true)
 else
 (bif !decide (((xs219.length : Nat) : Int) = ((rs145.length : Nat) : Int)) then
 (some true)
 else
 ((D_laws_sum fu xs219).bind fun x1431 =>
 some (!decide (x1431 = x117)))))).bind fun b1403 =>
 bif b1403 then
 (some false)
 else
 (bif !decide (x291 = 0) then
 (some (decide (((xs290.length : Nat) : Int) = 0)))
 else
 ((bif decide (((xs290.length : Nat) : Int) < 1) then
 (some true)
 else
 (chk (inR 0 xs290.length) <|
 some (!decide (rd xs290 0 = x120)))).bind fun b1461 =>
 bif b1461 then
 (some false)
 else
 ((loopF (D_laws_FnComponents_s2 fu x120 rs145 xs290) fu 0).bind fun
 | .inl _ => (some true)
 | .inr v2147 => some v2147)))))
 | .inr v2148 => some v2148))))))
end Go.Proofs.Ytdafmafigcljkaa
