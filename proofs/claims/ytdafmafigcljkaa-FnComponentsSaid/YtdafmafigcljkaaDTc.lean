/-
  What functions of the program compute, printed by a program. No condition.
-/
import Derived.Test.YtdafmafigcljkaaDTb
namespace Go.Proofs.Ytdafmafigcljkaa
open Go Am
set_option linter.unusedVariables false
def D_spec_ComponentsOf (fu : Nat) (a0 : Int) (a1 : List Int) (a2 : List Int) : Option ((List (List Int)) × Int) :=
 (D_spec_l02Rounds fu a0 [a1, a2]).bind fun x112 =>
 bif !decide (x112 = 0) then
 (some ([], x112))
 else
 ((D_spec_l02Components fu a0 a1 a2).bind fun rs123 =>
 some (rs123, 0))
def D_impl_ComponentsOf (fu : Nat) (a0 : Int) (a1 : List Int) (a2 : List Int) : Option ((List (List Int)) × Int) :=
 (D_impl_twoCode fu a0 a1 a2).bind fun x108 =>
 bif !decide (x108 = 0) then
 (some ([], x108))
 else
 ((D_impl_components fu a0 a1 a2).bind fun rs119 =>
 some (rs119, 0))
def D_spec_l02Type_s0 (fu : Nat) (rs108 : List (List Int)) : ((List Int) × Int) → Option (Lo ((List Int) × Int) (List Int)) := fun (xs190, x191) =>
 bif decide (x191 < ((rs108.length : Nat) : Int)) then
 (chk (inR x191 rs108.length) <|
 chk (xs190.length + 1 ≤ 4294967296) <|
 chk (in64 (x191 + 1)) <|
 some (.go ((xs190 ++ [(((rw_ rs108 x191.toNat).length : Nat) : Int)]), x191 + 1)))
 else
 (some (.out xs190))
def D_spec_l02Type_s1 (fu : Nat) (xs268 : List Int) : ((List Int) × Int) → Option (Lo ((List Int) × Int) (List Int)) := fun (xs341, x342) =>
 bif decide (0 ≤ x342) then
 (chk (inR x342 xs268.length) <|
 chk (xs341.length + 1 ≤ 4294967296) <|
 chk (in64 (x342 - 1)) <|
 some (.go ((xs341 ++ [rd xs268 x342.toNat]), x342 - 1)))
 else
 (some (.out xs341))
def D_spec_l02Type (fu : Nat) (a0 : Int) (a1 : List Int) (a2 : List Int) : Option (List Int) :=
 (D_spec_l02Components fu a0 a1 a2).bind fun rs108 =>
 (loopF (D_spec_l02Type_s0 fu rs108) fu ([], 0)).bind fun xs221 =>
 (D_spec_l02Sorted fu xs221).bind fun xs268 =>
 chk (in64 (((xs268.length : Nat) : Int) - 1)) <|
 (loopF (D_spec_l02Type_s1 fu xs268) fu ([], ((xs268.length : Nat) : Int) - 1)).bind fun xs368 =>
 some xs368
def D_spec_TypeOfRounds (fu : Nat) (a0 : Int) (a1 : List Int) (a2 : List Int) : Option ((List Int) × Int) :=
 (D_spec_l02Rounds fu a0 [a1, a2]).bind fun x112 =>
 bif !decide (x112 = 0) then
 (some ([], x112))
 else
 ((D_spec_l02Type fu a0 a1 a2).bind fun xs122 =>
 some (xs122, 0))
def D_impl_size_int64 (fu : Nat) (a0 : List Int) : Option Int :=
 some ((a0.length : Nat) : Int)
def D_impl_kind_s0 (fu : Nat) (rs112 : List (List Int)) : ((List Int) × Int) → Option (Lo ((List Int) × Int) (List Int)) := fun (xs197, x199) =>
 bif decide (x199 < ((rs112.length : Nat) : Int)) then
 (chk (inR x199 rs112.length) <|
 (D_impl_size_int64 fu (rw_ rs112 x199.toNat)).bind fun x256 =>
 chk (xs197.length + 1 ≤ 4294967296) <|
 chk (in64 (x199 + 1)) <|
 some (.go ((xs197 ++ [x256]), x199 + 1)))
 else
 (some (.out xs197))
def D_impl_kind (fu : Nat) (a0 : Int) (a1 : List Int) (a2 : List Int) : Option (List Int) :=
 (D_impl_components fu a0 a1 a2).bind fun rs112 =>
 (loopF (D_impl_kind_s0 fu rs112) fu ([], 0)).bind fun xs233 =>
 (D_slices_Sort_Sint64_int64 fu xs233).bind fun xs285 =>
 (D_slices_Reverse_Sint64_int64 fu xs285).bind fun xs294 =>
 some xs294
def D_impl_TypeOfRounds (fu : Nat) (a0 : Int) (a1 : List Int) (a2 : List Int) : Option ((List Int) × Int) :=
 (D_impl_twoCode fu a0 a1 a2).bind fun x108 =>
 bif !decide (x108 = 0) then
 (some ([], x108))
 else
 ((D_impl_kind fu a0 a1 a2).bind fun xs118 =>
 some (xs118, 0))
def D_spec_ChainFrom_s0 (fu : Nat) (a1 : List Int) (a2 : List Int) (a3 : Int) : ((List Int) × Int) → Option (Lo ((List Int) × Int) ((List Int) × Int)) := fun (xs259, x261) =>
 chk (in64 (((xs259.length : Nat) : Int) - 1)) <|
 chk (inR (((xs259.length : Nat) : Int) - 1) xs259.length) <|
 chk (inR x261 2) <|
 chk (inR (rd xs259 ((((xs259.length : Nat) : Int) - 1).toNat)) 14) <|
 bif (decide (rd (rw_ [a1, a2] x261.toNat) ((rd xs259 ((((xs259.length : Nat) : Int) - 1).toNat)).toNat) = a3)) || (decide (rd (rw_ [a1, a2] x261.toNat) ((rd xs259 ((((xs259.length : Nat) : Int) - 1).toNat)).toNat) = rd xs259 ((((xs259.length : Nat) : Int) - 1).toNat))) then
 (some (.out (xs259, 0)))
 else
 (chk (xs259.length + 1 ≤ 4294967296) <|
 chk (in64 (1 - x261)) <|
 some (.go ((xs259 ++ [rd (rw_ [a1, a2] x261.toNat) ((rd xs259 ((((xs259.length : Nat) : Int) - 1).toNat)).toNat)]), 1 - x261)))
def D_spec_ChainFrom (fu : Nat) (a0 : Int) (a1 : List Int) (a2 : List Int) (a3 : Int) : Option ((List Int) × Int) :=
 (D_spec_l02Rounds fu a0 [a1, a2]).bind fun x112 =>
 (bif decide (x112 = 0) then
 (chk (in64 (a0 - 1)) <|
 (D_spec_l01In fu a3 0 (a0 - 1)).bind fun b135 =>
 some (!b135))
 else
 (some false)).bind fun b127 =>
 (bif b127 then
 (some 2)
 else
 (some x112)).bind fun x154 =>
 bif !decide (x154 = 0) then
 (some ([], x154))
 else
 ((loopF (D_spec_ChainFrom_s0 fu a1 a2 a3) fu ([a3], 0)).bind fun v346 =>
 some v346)
def D_impl_ChainFrom_s0 (fu : Nat) (a3 : Int) : ((List Int) × (List Int) × (List Int)) → Option (Lo ((List Int) × (List Int) × (List Int)) ((List Int) × Int)) := fun (xs266, xs268, xs270) =>
 chk (in64 (((xs266.length : Nat) : Int) - 1)) <|
 chk (inR (((xs266.length : Nat) : Int) - 1) xs266.length) <|
 chk (inR (rd xs266 ((((xs266.length : Nat) : Int) - 1).toNat)) 14) <|
 bif (decide (rd xs268 ((rd xs266 ((((xs266.length : Nat) : Int) - 1).toNat)).toNat) = a3)) || (decide (rd xs268 ((rd xs266 ((((xs266.length : Nat) : Int) - 1).toNat)).toNat) = rd xs266 ((((xs266.length : Nat) : Int) - 1).toNat))) then
 (some (.out (xs266, 0)))
 else
 (chk (xs266.length + 1 ≤ 4294967296) <|
 some (.go ((xs266 ++ [rd xs268 ((rd xs266 ((((xs266.length : Nat) : Int) - 1).toNat)).toNat)]), xs270, xs268)))
def D_impl_ChainFrom (fu : Nat) (a0 : Int) (a1 : List Int) (a2 : List Int) (a3 : Int) : Option ((List Int) × Int) :=
 (D_impl_twoCode fu a0 a1 a2).bind fun x108 =>
 (bif decide (x108 = 0) then
 (chk (in64 (a0 - 1)) <|
 (D_impl_between fu a3 0 (a0 - 1)).bind fun b131 =>
 some (!b131))
 else
 (some false)).bind fun b123 =>
 (bif b123 then
 (some 2)
 else
 (some x108)).bind fun x148 =>
 bif !decide (x148 = 0) then
 (some ([], x148))
 else
 ((loopF (D_impl_ChainFrom_s0 fu a3) fu ([a3], a1, a2)).bind fun v357 =>
 some v357)
end Go.Proofs.Ytdafmafigcljkaa
