/-
  What functions of the program compute, printed by a program. No condition.
-/
import Derived.Test.YtnmbjedijgcncaaDD
import Derived.Test.YtnmbjedijgcncaaDAx
namespace Go.Proofs.Ytnmbjedijgcncaa
open Go Am
set_option linter.unusedVariables false
def D_spec_l03Adder_s0 (fu : Nat) (a0 : Int) (a1 : List (List Int)) (a2 : List Int) : ((List Bool) × (List Bool) × Int) → Option (Lo ((List Bool) × (List Bool) × Int) (Unit ⊕ Bool)) := fun (bs316, bs318, x319) =>
 bif decide (x319 < ((a2.length : Nat) : Int)) then
 (chk (inR x319 a1.length) <|
 chk (inR 0 ((rw_ a1 x319.toNat).length)) <|
 chk (inR x319 a2.length) <|
 chk (in64 (rd (rw_ a1 x319.toNat) 0 + (rd a2 x319.toNat))) <|
 chk ((a0 : Int) ≠ 0) <|
 chk (inR x319 a1.length) <|
 chk (inR 1 ((rw_ a1 x319.toNat).length)) <|
 chk (inR x319 a2.length) <|
 chk (in64 (rd (rw_ a1 x319.toNat) 1 + (rd a2 x319.toNat))) <|
 chk ((a0 : Int) ≠ 0) <|
 (chk (inR ((rd (rw_ a1 x319.toNat) 0 + (rd a2 x319.toNat)).tmod a0) a0.toNat) <|
 bif rdb bs316 (((rd (rw_ a1 x319.toNat) 0 + (rd a2 x319.toNat)).tmod a0).toNat) then
 (some true)
 else
 (chk (inR ((rd (rw_ a1 x319.toNat) 1 + (rd a2 x319.toNat)).tmod a0) a0.toNat) <|
 bif rdb bs316 (((rd (rw_ a1 x319.toNat) 1 + (rd a2 x319.toNat)).tmod a0).toNat) then
 (some true)
 else
 (chk (inR x319 a2.length) <|
 chk (inR (rd a2 x319.toNat) a0.toNat) <|
 some (rdb bs318 ((rd a2 x319.toNat).toNat))))).bind fun b474 =>
 bif b474 then
 (some (.out (.inr false)))
 else
 (chk (inR ((rd (rw_ a1 x319.toNat) 0 + (rd a2 x319.toNat)).tmod a0) a0.toNat) <|
 chk (inR ((rd (rw_ a1 x319.toNat) 1 + (rd a2 x319.toNat)).tmod a0) a0.toNat) <|
 chk (inR x319 a2.length) <|
 chk (inR (rd a2 x319.toNat) a0.toNat) <|
 chk (in64 (x319 + 1)) <|
 some (.go (((bs316.set (((rd (rw_ a1 x319.toNat) 0 + (rd a2 x319.toNat)).tmod a0).toNat) true).set (((rd (rw_ a1 x319.toNat) 1 + (rd a2 x319.toNat)).tmod a0).toNat) true), (bs318.set ((rd a2 x319.toNat).toNat) true), x319 + 1))))
 else
 (some (.out (.inl ())))
def D_spec_l03Adder (fu : Nat) (a0 : Int) (a1 : List (List Int)) (a2 : List Int) : Option Bool :=
 chk (0 ≤ a0 ∧ a0 ≤ 4294967296) <|
 chk (0 ≤ a0 ∧ a0 ≤ 4294967296) <|
 chk (inR 0 a0.toNat) <|
 (loopF (D_spec_l03Adder_s0 fu a0 a1 a2) fu (((List.replicate a0.toNat false).set 0 true), (List.replicate a0.toNat false), 0)).bind fun
 | .inl _ => (some true)
 | .inr v529 => some v529
def D_impl_isAdder_s0 (fu : Nat) (a0 : Int) (a1 : List (List Int)) (a2 : List Int) : ((List Int) × Int) → Option (Lo ((List Int) × Int) (List Int)) := fun (xs205, x206) =>
 bif decide (x206 < ((a2.length : Nat) : Int)) then
 (chk (inR x206 a2.length) <|
 chk (inR x206 a1.length) <|
 chk (inR 0 ((rw_ a1 x206.toNat).length)) <|
 chk (in64 (rd (rw_ a1 x206.toNat) 0 + (rd a2 x206.toNat))) <|
 chk ((a0 : Int) ≠ 0) <|
 chk (inR x206 a1.length) <|
 chk (inR 1 ((rw_ a1 x206.toNat).length)) <|
 chk (in64 (rd (rw_ a1 x206.toNat) 1 + (rd a2 x206.toNat))) <|
 chk ((a0 : Int) ≠ 0) <|
 chk (xs205.length + 2 ≤ 4294967296) <|
 chk (in64 (x206 + 1)) <|
 some (.go ((xs205 ++ [(rd (rw_ a1 x206.toNat) 0 + (rd a2 x206.toNat)).tmod a0, (rd (rw_ a1 x206.toNat) 1 + (rd a2 x206.toNat)).tmod a0]), x206 + 1)))
 else
 (some (.out xs205))
def D_impl_isAdder (fu : Nat) (a0 : Int) (a1 : List (List Int)) (a2 : List Int) : Option Bool :=
 (loopF (D_impl_isAdder_s0 fu a0 a1 a2) fu ([], 0)).bind fun xs256 =>
 ((D_impl_areDifferent fu a2).bind fun b332 =>
 bif b332 then
 ((D_impl_areDifferent fu xs256).bind fun b338 =>
 some b338)
 else
 (some false)).bind fun b328 =>
 some b328
def D_impl_firstAdder_s0 (self : Int → (List (List Int)) → (List Int) → Option (List Int)) (fu : Nat) (a0 : Int) (a1 : List (List Int)) (a2 : List Int) : Int → Option (Lo Int (Unit ⊕ (List Int))) := fun x222 =>
 bif decide (x222 < a0) then
 ((D_slices_Clone_Sint64_int64 fu a2).bind fun xs293 =>
 chk (xs293.length + 1 ≤ 4294967296) <|
 (D_impl_isAdder fu a0 a1 (xs293 ++ [x222])).bind fun b316 =>
 bif b316 then
 ((self a0 a1 (xs293 ++ [x222])).bind fun xs323 =>
 bif !decide (xs323 = []) then
 (chk (0 < xs323.length) <|
 some (.out (.inr xs323)))
 else
 (chk (in64 (x222 + 1)) <|
 some (.go (x222 + 1))))
 else
 (chk (in64 (x222 + 1)) <|
 some (.go (x222 + 1))))
 else
 (some (.out (.inl ())))
def D_impl_firstAdder : Nat → Int → (List (List Int)) → (List Int) → Option (List Int)
 | 0, _, _, _ => none
 | fu + 1, a0, a1, a2 =>
 bif decide (((a2.length : Nat) : Int) = ((a1.length : Nat) : Int)) then
 (chk (0 < a2.length) <|
 some a2)
 else
 ((loopF (D_impl_firstAdder_s0 (D_impl_firstAdder fu) fu a0 a1 a2) fu 1).bind fun
 | .inl _ => (some [])
 | .inr v356 => some v356)
def D_spec_l03FindAdder_s0 (self : Int → (List (List Int)) → (List Int) → Option ((List Int) × Bool)) (fu : Nat) (a0 : Int) (a1 : List (List Int)) (a2 : List Int) : Int → Option (Lo Int (Unit ⊕ ((List Int) × Bool))) := fun x219 =>
 bif decide (x219 < a0) then
 ((D_spec_l01Own fu a2).bind fun xs289 =>
 chk (xs289.length + 1 ≤ 4294967296) <|
 (D_spec_l03Adder fu a0 a1 (xs289 ++ [x219])).bind fun b312 =>
 bif !b312 then
 (chk (in64 (x219 + 1)) <|
 some (.go (x219 + 1)))
 else
 ((self a0 a1 (xs289 ++ [x219])).bind fun (xs324, b325) =>
 bif b325 then
 (some (.out (.inr (xs324, true))))
 else
 (chk (in64 (x219 + 1)) <|
 some (.go (x219 + 1)))))
 else
 (some (.out (.inl ())))
def D_spec_l03FindAdder : Nat → Int → (List (List Int)) → (List Int) → Option ((List Int) × Bool)
 | 0, _, _, _ => none
 | fu + 1, a0, a1, a2 =>
 bif decide (((a2.length : Nat) : Int) = ((a1.length : Nat) : Int)) then
 (some (a2, true))
 else
 ((loopF (D_spec_l03FindAdder_s0 (D_spec_l03FindAdder fu) fu a0 a1 a2) fu 1).bind fun
 | .inl _ => (some ([], false))
 | .inr v352 => some v352)
end Go.Proofs.Ytnmbjedijgcncaa
