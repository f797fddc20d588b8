/-
  What functions of the program compute, printed by a program. No condition.
-/
import Derived.Test.YtnmbjedijgcncaaDF
namespace Go.Proofs.Ytnmbjedijgcncaa
open Go Am
set_option linter.unusedVariables false
def D_spec_ComponentsOf (fu : Nat) (a0 : Int) (a1 : List Int) (a2 : List Int) : Option ((List (List Int)) × Int) :=
 (D_spec_l02Rounds fu a0 [a1, a2]).bind fun x112 =>
 bif !decide (x112 = 0) then
 (some ([], x112))
 else
 ((D_spec_l02Components fu a0 a1 a2).bind fun rs123 =>
 some (rs123, 0))
def D_impl_ComponentsOf (fu : Nat) (a0 : Int) (a1 : List Int) (a2 : List Int) : Option ((List (List Int)) × Int) :=
 (D_impl_twoCode fu a0 a1 a2).bind fun x108 =>
 bif !decide (x108 = 0) then
 (some ([], x108))
 else
 ((D_impl_components fu a0 a1 a2).bind fun rs119 =>
 some (rs119, 0))
def D_spec_l02Type_s0 (fu : Nat) (rs108 : List (List Int)) : ((List Int) × Int) → Option (Lo ((List Int) × Int) (List Int)) := fun (xs190, x191) =>
 bif decide (x191 < ((rs108.length : Nat) : Int)) then
 (chk (inR x191 rs108.length) <|
 chk (xs190.length + 1 ≤ 4294967296) <|
 chk (in64 (x191 + 1)) <|
 some (.go ((xs190 ++ [(((rw_ rs108 x191.toNat).length : Nat) : Int)]), x191 + 1)))
 else
 (some (.out xs190))
def D_spec_l02Type_s1 (fu : Nat) (xs268 : List Int) : ((List Int) × Int) → Option (Lo ((List Int) × Int) (List Int)) := fun (xs341, x342) =>
 bif decide (0 ≤ x342) then
 (chk (inR x342 xs268.length) <|
 chk (xs341.length + 1 ≤ 4294967296) <|
 chk (in64 (x342 - 1)) <|
 some (.go ((xs341 ++ [rd xs268 x342.toNat]), x342 - 1)))
 else
 (some (.out xs341))
def D_spec_l02Type (fu : Nat) (a0 : Int) (a1 : List Int) (a2 : List Int) : Option (List Int) :=
 (D_spec_l02Components fu a0 a1 a2).bind fun rs108 =>
 (loopF (D_spec_l02Type_s0 fu rs108) fu ([], 0)).bind fun xs221 =>
 (D_spec_l02Sorted fu xs221).bind fun xs268 =>
 chk (in64 (((xs268.length : Nat) : Int) - 1)) <|
 (loopF (D_spec_l02Type_s1 fu xs268) fu ([], ((xs268.length : Nat) : Int) - 1)).bind fun xs368 =>
 some xs368
def D_spec_TypeOfRounds (fu : Nat) (a0 : Int) (a1 : List Int) (a2 : List Int) : Option ((List Int) × Int) :=
 (D_spec_l02Rounds fu a0 [a1, a2]).bind fun x112 =>
 bif !decide (x112 = 0) then
 (some ([], x112))
 else
 ((D_spec_l02Type fu a0 a1 a2).bind fun xs122 =>
 some (xs122, 0))
def D_impl_size_int64 (fu : Nat) (a0 : List Int) : Option Int :=
 some ((a0.length : Nat) : Int)
def D_impl_kind_s0 (fu : Nat) (rs112 : List (List Int)) : ((List Int) × Int) → Option (Lo ((List Int) × Int) (List Int)) := fun (xs197, x199) =>
 bif decide (x199 < ((rs112.length : Nat) : Int)) then
 (chk (inR x199 rs112.length) <|
 (D_impl_size_int64 fu (rw_ rs112 x199.toNat)).bind fun x256 =>
 chk (xs197.length + 1 ≤ 4294967296) <|
 chk (in64 (x199 + 1)) <|
 some (.go ((xs197 ++ [x256]), x199 + 1)))
 else
 (some (.out xs197))
def D_impl_kind (fu : Nat) (a0 : Int) (a1 : List Int) (a2 : List Int) : Option (List Int) :=
 (D_impl_components fu a0 a1 a2).bind fun rs112 =>
 (loopF (D_impl_kind_s0 fu rs112) fu ([], 0)).bind fun xs233 =>
 (D_slices_Sort_Sint64_int64 fu xs233).bind fun xs285 =>
 (D_slices_Reverse_Sint64_int64 fu xs285).bind fun xs294 =>
 some xs294
def D_impl_TypeOfRounds (fu : Nat) (a0 : Int) (a1 : List Int) (a2 : List Int) : Option ((List Int) × Int) :=
 (D_impl_twoCode fu a0 a1 a2).bind fun x108 =>
 bif !decide (x108 = 0) then
 (some ([], x108))
 else
 ((D_impl_kind fu a0 a1 a2).bind fun xs118 =>
 some (xs118, 0))
end Go.Proofs.Ytnmbjedijgcncaa
