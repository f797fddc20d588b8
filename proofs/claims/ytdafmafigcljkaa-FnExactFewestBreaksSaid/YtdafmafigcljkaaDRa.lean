/-
  What functions of the program compute, printed by a program. No condition.
-/
import Derived.Test.YtdafmafigcljkaaDA
import Derived.Test.YtdafmafigcljkaaTbb
namespace Go.Proofs.Ytdafmafigcljkaa
open Go Am
set_option linter.unusedVariables false
def D_spec_l01Meetings_s1 (fu : Nat) (a0_0 : Int) (a0_1 : List (List Int)) (x463 : Int) : ((List Int) × Int) → Option (Lo ((List Int) × Int) (List Int)) := fun (xs725, x726) =>
 bif decide (x726 < ((a0_1.length : Nat) : Int)) then
 (chk (inR x726 a0_1.length) <|
 chk (inR x463 14) <|
 bif !decide (rd (rw_ a0_1 x726.toNat) x463.toNat = x463) then
 (chk (inR (rd (rw_ a0_1 x726.toNat) x463.toNat) a0_0.toNat) <|
 chk (in64 (rd xs725 ((rd (rw_ a0_1 x726.toNat) x463.toNat).toNat) + 1)) <|
 chk (inR (rd (rw_ a0_1 x726.toNat) x463.toNat) a0_0.toNat) <|
 chk (in64 (x726 + 1)) <|
 some (.go ((xs725.set ((rd (rw_ a0_1 x726.toNat) x463.toNat).toNat) (rd xs725 ((rd (rw_ a0_1 x726.toNat) x463.toNat).toNat) + 1)), x726 + 1)))
 else
 (chk (in64 (x726 + 1)) <|
 some (.go (xs725, x726 + 1))))
 else
 (some (.out xs725))
def D_spec_l01Meetings_s0 (fu : Nat) (a0_0 : Int) (a0_1 : List (List Int)) : ((List (List Int)) × Int) → Option (Lo ((List (List Int)) × Int) (List (List Int))) := fun (rs461, x463) =>
 bif decide (x463 < a0_0) then
 (chk (0 ≤ a0_0 ∧ a0_0 ≤ 4294967296) <|
 (loopF (D_spec_l01Meetings_s1 fu a0_0 a0_1 x463) fu ((List.replicate a0_0.toNat 0), 0)).bind fun xs755 =>
 chk (rs461.length + 1 ≤ 4294967296) <|
 chk (in64 (x463 + 1)) <|
 some (.go ((rs461 ++ [xs755]), x463 + 1)))
 else
 (some (.out rs461))
def D_spec_l01Meetings (fu : Nat) (a0_0 : Int) (a0_1 : List (List Int)) : Option (List (List Int)) :=
 (loopF (D_spec_l01Meetings_s0 fu a0_0 a0_1) fu ([], 0)).bind fun rs641 =>
 some rs641
def D_spec_l02Met_s1 (fu : Nat) (rs104 : List (List Int)) (x515 : Int) : ((List Bool) × Int) → Option (Lo ((List Bool) × Int) (List Bool)) := fun (bs802, x803) =>
 bif decide (x803 < ((rs104.length : Nat) : Int)) then
 (chk (inR x515 rs104.length) <|
 chk (inR x803 ((rw_ rs104 x515.toNat).length)) <|
 chk (bs802.length + 1 ≤ 4294967296) <|
 chk (in64 (x803 + 1)) <|
 some (.go ((bs802 ++ [decide (0 < rd (rw_ rs104 x515.toNat) x803.toNat)]), x803 + 1)))
 else
 (some (.out bs802))
def D_spec_l02Met_s0 (fu : Nat) (rs104 : List (List Int)) : ((List (List Bool)) × Int) → Option (Lo ((List (List Bool)) × Int) (List (List Bool))) := fun (bss513, x515) =>
 bif decide (x515 < ((rs104.length : Nat) : Int)) then
 ((loopF (D_spec_l02Met_s1 fu rs104 x515) fu ([], 0)).bind fun bs837 =>
 chk (bss513.length + 1 ≤ 4294967296) <|
 chk (in64 (x515 + 1)) <|
 some (.go ((bss513 ++ [bs837]), x515 + 1)))
 else
 (some (.out bss513))
def D_spec_l02Met (fu : Nat) (a0_0 : Int) (a0_1 : List (List Int)) : Option (List (List Bool)) :=
 (D_spec_l01Meetings fu a0_0 a0_1).bind fun rs104 =>
 (loopF (D_spec_l02Met_s0 fu rs104) fu ([], 0)).bind fun bss708 =>
 some bss708
def D_spec_l02Match_s0 (fu : Nat) (a0 : Int) (a2 : List Int) : Int → Option (Lo Int Int) := fun x149 =>
 (bif decide (x149 < a0) then
 (chk (inR x149 14) <|
 some (!decide (rd a2 x149.toNat = x149)))
 else
 (some false)).bind fun b197 =>
 bif b197 then
 (chk (in64 (x149 + 1)) <|
 some (.go (x149 + 1)))
 else
 (some (.out x149))
def D_spec_l02Match_s1 (self : Int → (List (List Bool)) → (List Int) → Option (List (List Int))) (fu : Nat) (a0 : Int) (a1 : List (List Bool)) (a2 : List Int) (x179 : Int) : ((List (List Int)) × Int) → Option (Lo ((List (List Int)) × Int) (List (List Int))) := fun (rs421, x422) =>
 bif decide (x422 < a0) then
 ((chk (inR x422 14) <|
 bif decide (rd a2 x422.toNat = x422) then
 (chk (inR x179 a1.length) <|
 chk (inR x422 ((rwB a1 x179.toNat).length)) <|
 some (!(rdb (rwB a1 x179.toNat) x422.toNat)))
 else
 (some false)).bind fun b542 =>
 bif b542 then
 (chk (inR x179 14) <|
 chk (inR x422 14) <|
 (self a0 a1 ((a2.set x179.toNat x422).set x422.toNat x179)).bind fun rs582 =>
 chk (rs421.length + rs582.length ≤ 4294967296) <|
 chk (in64 (x422 + 1)) <|
 some (.go ((rs421 ++ rs582), x422 + 1)))
 else
 (chk (in64 (x422 + 1)) <|
 some (.go (rs421, x422 + 1))))
 else
 (some (.out rs421))
def D_spec_l02Match : Nat → Int → (List (List Bool)) → (List Int) → Option (List (List Int))
 | 0, _, _, _ => none
 | fu + 1, a0, a1, a2 =>
 (loopF (D_spec_l02Match_s0 fu a0 a2) fu 0).bind fun x179 =>
 bif decide (x179 = a0) then
 (some [a2])
 else
 (chk (in64 (x179 + 1)) <|
 (loopF (D_spec_l02Match_s1 (D_spec_l02Match fu) fu a0 a1 a2 x179) fu ([], x179 + 1)).bind fun rs512 =>
 some rs512)
def D_spec_l01Free_s0 (fu : Nat) (a0 : Int) : ((List Int) × Int) → Option (Lo ((List Int) × Int) (List Int)) := fun (xs140, x141) =>
 bif decide (x141 < a0) then
 (chk (inR x141 14) <|
 chk (in64 (x141 + 1)) <|
 some (.go ((xs140.set x141.toNat x141), x141 + 1)))
 else
 (some (.out xs140))
def D_spec_l01Free (fu : Nat) (a0 : Int) : Option (List Int) :=
 (loopF (D_spec_l01Free_s0 fu a0) fu ((List.replicate 14 0), 0)).bind fun xs156 =>
 some xs156
def D_impl_free_s0 (fu : Nat) (a0 : Int) : ((List Int) × Int) → Option (Lo ((List Int) × Int) (List Int)) := fun (xs140, x141) =>
 bif decide (x141 < a0) then
 (chk (inR x141 14) <|
 chk (in64 (x141 + 1)) <|
 some (.go ((xs140.set x141.toNat x141), x141 + 1)))
 else
 (some (.out xs140))
def D_impl_free (fu : Nat) (a0 : Int) : Option (List Int) :=
 (loopF (D_impl_free_s0 fu a0) fu ((List.replicate 14 0), 0)).bind fun xs156 =>
 some xs156
def D_impl_square_s0 (fu : Nat) (a0 : Int) : ((List (List Int)) × Int) → Option (Lo ((List (List Int)) × Int) (List (List Int))) := fun (rs172, x174) =>
 bif decide (x174 < a0) then
 (chk (0 ≤ a0 ∧ a0 ≤ 4294967296) <|
 chk (rs172.length + 1 ≤ 4294967296) <|
 chk (in64 (x174 + 1)) <|
 some (.go ((rs172 ++ [(List.replicate a0.toNat 0)]), x174 + 1)))
 else
 (some (.out rs172))
def D_impl_square (fu : Nat) (a0 : Int) : Option (List (List Int)) :=
 (loopF (D_impl_square_s0 fu a0) fu ([], 0)).bind fun rs207 =>
 some rs207
def D_impl_mark_s0 (fu : Nat) (a0 : List (List Int)) (a1 : List Int) (a2 : Int) : ((List (List Int)) × Int) → Option (Lo ((List (List Int)) × Int) (List (List Int))) := fun (rs160, x163) =>
 bif decide (x163 < ((a0.length : Nat) : Int)) then
 (chk (inR x163 a0.length) <|
 chk (inR x163 14) <|
 chk (inR (rd a1 x163.toNat) ((rw_ rs160 x163.toNat).length)) <|
 chk (in64 (rd (rw_ rs160 x163.toNat) ((rd a1 x163.toNat).toNat) + a2)) <|
 chk (inR (rd a1 x163.toNat) ((rw_ rs160 x163.toNat).length)) <|
 chk (in64 (x163 + 1)) <|
 some (.go ((rs160.set x163.toNat ((rw_ rs160 x163.toNat).set ((rd a1 x163.toNat).toNat) (rd (rw_ rs160 x163.toNat) ((rd a1 x163.toNat).toNat) + a2))), x163 + 1)))
 else
 (some (.out rs160))
def D_impl_mark (fu : Nat) (a0 : List (List Int)) (a1 : List Int) (a2 : Int) : Option (List (List Int)) :=
 (loopF (D_impl_mark_s0 fu a0 a1 a2) fu (a0, 0)).bind fun rs190 =>
 some rs190
def D_impl_Round_meet (fu : Nat) (a0 : List Int) (a1 : Int) (a2 : Int) : Option (List Int) :=
 chk (inR a1 14) <|
 chk (inR a2 14) <|
 some ((a0.set a1.toNat a2).set a2.toNat a1)
end Go.Proofs.Ytdafmafigcljkaa
