/-
  What functions of the program compute, printed by a program. No condition.
-/
import Derived.Test.YtakfkiahhfdjfaaDG
import Derived.Test.YtakfkiahhfdjfaaDI
namespace Go.Proofs.Ytakfkiahhfdjfaa
open Go Am
set_option linter.unusedVariables false
def D_spec_l04Empty_s1 (fu : Nat) (a0 : Int) : ((List Int) × Int) → Option (Lo ((List Int) × Int) (List Int)) := fun (xs630, x631) =>
 bif decide (x631 < a0) then
 (chk (xs630.length + 1 ≤ 4294967296) <|
 chk (in64 (x631 + 1)) <|
 some (.go ((xs630 ++ [(-1)]), x631 + 1)))
 else
 (some (.out xs630))
def D_spec_l04Empty_s0 (fu : Nat) (a0 : Int) : ((List (List Int)) × Int) → Option (Lo ((List (List Int)) × Int) (List (List Int))) := fun (rs406, x408) =>
 bif decide (x408 < a0) then
 ((loopF (D_spec_l04Empty_s1 fu a0) fu ([], 0)).bind fun xs656 =>
 chk (rs406.length + 1 ≤ 4294967296) <|
 chk (in64 (x408 + 1)) <|
 some (.go ((rs406 ++ [xs656]), x408 + 1)))
 else
 (some (.out rs406))
def D_spec_l04Empty (fu : Nat) (a0 : Int) : Option (List (List Int)) :=
 (loopF (D_spec_l04Empty_s0 fu a0) fu ([], 0)).bind fun rs558 =>
 some rs558
def D_spec_SquareOfStarter_s1 (fu : Nat) (a0 : Int) (a1 : List (List Int)) (a2 : List Int) (rs700 : List (List Int)) (x702 : Int) : ((List (List Int)) × Int) → Option (Lo ((List (List Int)) × Int) (List (List Int))) := fun (rs1114, x1117) =>
 bif decide (x1117 < ((a1.length : Nat) : Int)) then
 (chk (inR x1117 a1.length) <|
 chk (inR 0 ((rw_ a1 x1117.toNat).length)) <|
 chk (in64 (rd (rw_ a1 x1117.toNat) 0 + x702)) <|
 chk ((a0 : Int) ≠ 0) <|
 chk (inR x1117 a1.length) <|
 chk (inR 1 ((rw_ a1 x1117.toNat).length)) <|
 chk (in64 (rd (rw_ a1 x1117.toNat) 1 + x702)) <|
 chk ((a0 : Int) ≠ 0) <|
 chk (in64 (x702 + a0)) <|
 chk (inR x1117 a2.length) <|
 chk (in64 (x702 + a0 - (rd a2 x1117.toNat))) <|
 chk ((a0 : Int) ≠ 0) <|
 chk (in64 (14 * (if (rd (rw_ a1 x1117.toNat) 1 + x702).tmod a0 < (rd (rw_ a1 x1117.toNat) 0 + x702).tmod a0 then (rd (rw_ a1 x1117.toNat) 1 + x702).tmod a0 else (rd (rw_ a1 x1117.toNat) 0 + x702).tmod a0))) <|
 chk (in64 (14 * (if (rd (rw_ a1 x1117.toNat) 1 + x702).tmod a0 < (rd (rw_ a1 x1117.toNat) 0 + x702).tmod a0 then (rd (rw_ a1 x1117.toNat) 1 + x702).tmod a0 else (rd (rw_ a1 x1117.toNat) 0 + x702).tmod a0) + (if (rd (rw_ a1 x1117.toNat) 1 + x702).tmod a0 > (rd (rw_ a1 x1117.toNat) 0 + x702).tmod a0 then (rd (rw_ a1 x1117.toNat) 1 + x702).tmod a0 else (rd (rw_ a1 x1117.toNat) 0 + x702).tmod a0))) <|
 chk (inR ((x702 + a0 - (rd a2 x1117.toNat)).tmod a0) ((rw_ rs700 x702.toNat).length)) <|
 chk (in64 (x1117 + 1)) <|
 some (.go ((rs1114.set x702.toNat ((rw_ rs1114 x702.toNat).set (((x702 + a0 - (rd a2 x1117.toNat)).tmod a0).toNat) (14 * (if (rd (rw_ a1 x1117.toNat) 1 + x702).tmod a0 < (rd (rw_ a1 x1117.toNat) 0 + x702).tmod a0 then (rd (rw_ a1 x1117.toNat) 1 + x702).tmod a0 else (rd (rw_ a1 x1117.toNat) 0 + x702).tmod a0) + (if (rd (rw_ a1 x1117.toNat) 1 + x702).tmod a0 > (rd (rw_ a1 x1117.toNat) 0 + x702).tmod a0 then (rd (rw_ a1 x1117.toNat) 1 + x702).tmod a0 else (rd (rw_ a1 x1117.toNat) 0 + x702).tmod a0)))), x1117 + 1)))
 else
 (some (.out rs1114))
def D_spec_SquareOfStarter_s0 (fu : Nat) (a0 : Int) (a1 : List (List Int)) (a2 : List Int) (rs140 : List (List Int)) : ((List (List Int)) × Int) → Option (Lo ((List (List Int)) × Int) (List (List Int))) := fun (rs700, x702) =>
 bif decide (x702 < a0) then
 (chk (inR x702 rs140.length) <|
 chk (in64 (14 * x702)) <|
 chk (in64 (14 * x702 + a0)) <|
 chk (inR x702 ((rw_ rs700 x702.toNat).length)) <|
 (loopF (D_spec_SquareOfStarter_s1 fu a0 a1 a2 rs700 x702) fu ((rs700.set x702.toNat ((rw_ rs700 x702.toNat).set x702.toNat (14 * x702 + a0))), 0)).bind fun rs1170 =>
 chk (in64 (x702 + 1)) <|
 some (.go (rs1170, x702 + 1)))
 else
 (some (.out rs700))
def D_spec_SquareOfStarter (fu : Nat) (a0 : Int) (a1 : List (List Int)) (a2 : List Int) : Option (Int × (List (List Int)) × Int) :=
 (D_spec_IsAdder fu a0 a1 a2).bind fun (b104, x105) =>
 (bif (decide (x105 = 0)) && (!b104) then
 (some 5)
 else
 (some x105)).bind fun x118 =>
 bif !decide (x118 = 0) then
 (some (0, [], x118))
 else
 ((D_spec_l04Empty fu a0).bind fun rs140 =>
 (loopF (D_spec_SquareOfStarter_s0 fu a0 a1 a2 rs140) fu (rs140, 0)).bind fun rs970 =>
 some (a0, rs970, 0))
def D_impl_SquareOfStarter_s1 (fu : Nat) (a0 : Int) (a1 : List (List Int)) (a2 : List Int) (x129 : Int) (x668 : Int) : ((List (List Int)) × Int) → Option (Lo ((List (List Int)) × Int) (List (List Int))) := fun (rs1061, x1063) =>
 bif decide (x1063 < ((a1.length : Nat) : Int)) then
 (chk (inR x1063 a1.length) <|
 chk (inR x1063 a2.length) <|
 chk (in64 (x668 - (rd a2 x1063.toNat))) <|
 chk (in64 (x668 - (rd a2 x1063.toNat) + a0)) <|
 chk ((a0 : Int) ≠ 0) <|
 chk (inR 0 ((rw_ a1 x1063.toNat).length)) <|
 chk (in64 (rd (rw_ a1 x1063.toNat) 0 + x668)) <|
 chk ((a0 : Int) ≠ 0) <|
 chk (inR 1 ((rw_ a1 x1063.toNat).length)) <|
 chk (in64 (rd (rw_ a1 x1063.toNat) 1 + x668)) <|
 chk ((a0 : Int) ≠ 0) <|
 (D_impl_Square_put fu x129 rs1061 x668 ((x668 - (rd a2 x1063.toNat) + a0).tmod a0) ((rd (rw_ a1 x1063.toNat) 0 + x668).tmod a0) ((rd (rw_ a1 x1063.toNat) 1 + x668).tmod a0)).bind fun rs1160 =>
 chk (in64 (x1063 + 1)) <|
 some (.go (rs1160, x1063 + 1)))
 else
 (some (.out rs1061))
def D_impl_SquareOfStarter_s0 (fu : Nat) (a0 : Int) (a1 : List (List Int)) (a2 : List Int) (x129 : Int) : ((List (List Int)) × Int) → Option (Lo ((List (List Int)) × Int) (List (List Int))) := fun (rs666, x668) =>
 bif decide (x668 < a0) then
 ((D_impl_Square_put fu x129 rs666 x668 x668 x668 a0).bind fun rs944 =>
 (loopF (D_impl_SquareOfStarter_s1 fu a0 a1 a2 x129 x668) fu (rs944, 0)).bind fun rs1114 =>
 chk (in64 (x668 + 1)) <|
 some (.go (rs1114, x668 + 1)))
 else
 (some (.out rs666))
def D_impl_SquareOfStarter (fu : Nat) (a0 : Int) (a1 : List (List Int)) (a2 : List Int) : Option (Int × (List (List Int)) × Int) :=
 (D_impl_IsAdder fu a0 a1 a2).bind fun (b104, x105) =>
 bif !decide (x105 = 0) then
 (some (0, [], x105))
 else
 (bif !b104 then
 (some (0, [], 5))
 else
 ((D_impl_emptySquare fu a0).bind fun (x129, rs130) =>
 (loopF (D_impl_SquareOfStarter_s0 fu a0 a1 a2 x129) fu (rs130, 0)).bind fun rs924 =>
 some (x129, rs924, 0)))
end Go.Proofs.Ytakfkiahhfdjfaa
