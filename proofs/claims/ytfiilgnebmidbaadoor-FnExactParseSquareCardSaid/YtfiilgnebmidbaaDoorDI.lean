/-
  What functions of the program compute, printed by a program. No condition.
-/
import Derived.Test.YtfiilgnebmidbaaDoorDG
import Derived.Test.YtfiilgnebmidbaaDoorDH
namespace Go.Proofs.YtfiilgnebmidbaaDoor
open Go Am
set_option linter.unusedVariables false
def D_spec_RoundOf_s0 (fu : Nat) (a0 : Int) (a1 : List (List Int)) : Int → Option (Lo Int (Unit ⊕ ((List Int) × Int))) := fun x426 =>
 bif decide (x426 < ((a1.length : Nat) : Int)) then
 ((chk (inR x426 a1.length) <|
 bif !decide ((((rw_ a1 x426.toNat).length : Nat) : Int) = 2) then
 (some true)
 else
 (chk (inR x426 a1.length) <|
 chk (inR 0 ((rw_ a1 x426.toNat).length)) <|
 chk (in64 (a0 - 1)) <|
 (D_spec_l01In fu (rd (rw_ a1 x426.toNat) 0) 0 (a0 - 1)).bind fun b669 =>
 bif !b669 then
 (some true)
 else
 (chk (inR x426 a1.length) <|
 chk (inR 1 ((rw_ a1 x426.toNat).length)) <|
 chk (in64 (a0 - 1)) <|
 (D_spec_l01In fu (rd (rw_ a1 x426.toNat) 1) 0 (a0 - 1)).bind fun b687 =>
 bif !b687 then
 (some true)
 else
 (chk (inR x426 a1.length) <|
 chk (inR 0 ((rw_ a1 x426.toNat).length)) <|
 chk (inR x426 a1.length) <|
 chk (inR 1 ((rw_ a1 x426.toNat).length)) <|
 some (decide (rd (rw_ a1 x426.toNat) 0 = rd (rw_ a1 x426.toNat) 1)))))).bind fun b645 =>
 bif b645 then
 (some (.out (.inr ((List.replicate 14 0), 2))))
 else
 (chk (in64 (x426 + 1)) <|
 some (.go (x426 + 1))))
 else
 (some (.out (.inl ())))
def D_spec_RoundOf_s1 (fu : Nat) (a0 : Int) (a1 : List (List Int)) : ((List Bool) × Int) → Option (Lo ((List Bool) × Int) (Unit ⊕ ((List Int) × Int))) := fun (bs939, x940) =>
 bif decide (x940 < ((a1.length : Nat) : Int)) then
 ((chk (inR x940 a1.length) <|
 chk (inR 0 ((rw_ a1 x940.toNat).length)) <|
 chk (inR (rd (rw_ a1 x940.toNat) 0) a0.toNat) <|
 bif rdb bs939 ((rd (rw_ a1 x940.toNat) 0).toNat) then
 (some true)
 else
 (chk (inR x940 a1.length) <|
 chk (inR 1 ((rw_ a1 x940.toNat).length)) <|
 chk (inR (rd (rw_ a1 x940.toNat) 1) a0.toNat) <|
 some (rdb bs939 ((rd (rw_ a1 x940.toNat) 1).toNat)))).bind fun b1078 =>
 bif b1078 then
 (some (.out (.inr ((List.replicate 14 0), 5))))
 else
 (chk (inR x940 a1.length) <|
 chk (inR 0 ((rw_ a1 x940.toNat).length)) <|
 chk (inR (rd (rw_ a1 x940.toNat) 0) a0.toNat) <|
 chk (inR x940 a1.length) <|
 chk (inR 1 ((rw_ a1 x940.toNat).length)) <|
 chk (inR (rd (rw_ a1 x940.toNat) 1) a0.toNat) <|
 chk (in64 (x940 + 1)) <|
 some (.go (((bs939.set ((rd (rw_ a1 x940.toNat) 0).toNat) true).set ((rd (rw_ a1 x940.toNat) 1).toNat) true), x940 + 1))))
 else
 (some (.out (.inl ())))
def D_spec_RoundOf (fu : Nat) (a0 : Int) (a1 : List (List Int)) : Option ((List Int) × Int) :=
 ((D_spec_l01In fu a0 2 14).bind fun b116 =>
 bif !b116 then
 (some true)
 else
 (some (decide (14 < ((a1.length : Nat) : Int))))).bind fun b112 =>
 bif b112 then
 (some ((List.replicate 14 0), 2))
 else
 ((loopF (D_spec_RoundOf_s0 fu a0 a1) fu 0).bind fun
 | .inl _ => (chk (0 ≤ a0 ∧ a0 ≤ 4294967296) <|
 (loopF (D_spec_RoundOf_s1 fu a0 a1) fu ((List.replicate a0.toNat false), 0)).bind fun
 | .inl _ => ((D_spec_l01Made fu a0 a1).bind fun xs1154 =>
 some (xs1154, 0))
 | .inr v1163 => some v1163)
 | .inr v1164 => some v1164)
def D_spec_l01ReadRound_s0 (fu : Nat) (ss416 : List ByteArray) : ((List (List Int)) × Int) → Option (Lo ((List (List Int)) × Int) ((List (List Int)) ⊕ ((List Int) × Bool))) := fun (rs560, x563) =>
 bif decide (x563 < ((ss416.length : Nat) : Int)) then
 (chk (inR x563 ss416.length) <|
 (D_spec_l01Split fu (rds ss416 x563.toNat) 45).bind fun ss647 =>
 bif !decide (((ss647.length : Nat) : Int) = 2) then
 (some (.out (.inr ((List.replicate 14 0), false))))
 else
 (chk (inR 0 ss647.length) <|
 (D_spec_l01Number fu (rds ss647 0)).bind fun x668 =>
 chk (inR 1 ss647.length) <|
 (D_spec_l01Number fu (rds ss647 1)).bind fun x674 =>
 chk (rs560.length + 1 ≤ 4294967296) <|
 chk (in64 (x563 + 1)) <|
 some (.go ((rs560 ++ [[x668, x674]]), x563 + 1))))
 else
 (some (.out (.inl rs560)))
def D_spec_l01ReadRound (fu : Nat) (a0 : Int) (a1 : ByteArray) : Option ((List Int) × Bool) :=
 ((bif !((a1 : ByteArray).toList == ((⟨#[]⟩ : ByteArray) : ByteArray).toList) then
 ((D_spec_l01Split fu a1 44).bind fun ss416 =>
 (loopF (D_spec_l01ReadRound_s0 fu ss416) fu ([], 0)).bind fun
 | .inl rs627 => (some (.inl rs627))
 | .inr v716 => some (.inr v716))
 else
 (some (.inl [])) : Option ((List (List Int)) ⊕ ((List Int) × Bool)))).bind fun
 | .inl rs409 => ((D_spec_RoundOf fu a0 rs409).bind fun (xs724, x725) =>
 (bif decide (x725 = 0) then
 ((D_spec_l01RoundText fu a0 xs724).bind fun s755 =>
 some ((s755 : ByteArray).toList == (a1 : ByteArray).toList))
 else
 (some false)).bind fun b749 =>
 some (xs724, b749))
 | .inr v772 => some v772
def D_spec_l01Read_s0 (fu : Nat) (x126 : Int) (ss136 : List ByteArray) : ((List (List Int)) × Int) → Option (Lo ((List (List Int)) × Int) ((List (List Int)) ⊕ (Int × (List (List Int)) × Bool))) := fun (rs258, x260) =>
 bif decide (x260 < ((ss136.length : Nat) : Int)) then
 (chk (inR x260 ss136.length) <|
 (D_spec_l01ReadRound fu x126 (rds ss136 x260.toNat)).bind fun (xs330, b331) =>
 bif !b331 then
 (some (.out (.inr (0, [], false))))
 else
 (chk (rs258.length + 1 ≤ 4294967296) <|
 chk (in64 (x260 + 1)) <|
 some (.go ((rs258 ++ [xs330]), x260 + 1))))
 else
 (some (.out (.inl rs258)))
def D_spec_l01Read (fu : Nat) (a0 : ByteArray) : Option (Int × (List (List Int)) × Bool) :=
 (D_spec_l01Split fu a0 58).bind fun ss104 =>
 bif !decide (((ss104.length : Nat) : Int) = 2) then
 (some (0, [], false))
 else
 (chk (inR 0 ss104.length) <|
 (D_spec_l01Number fu (rds ss104 0)).bind fun x126 =>
 chk (inR 1 ss104.length) <|
 (D_spec_l01Split fu (rds ss104 1) 59).bind fun ss136 =>
 (loopF (D_spec_l01Read_s0 fu x126 ss136) fu ([], 0)).bind fun
 | .inl rs310 => ((D_spec_l01Is fu x126 rs310).bind fun b383 =>
 some (x126, rs310, b383))
 | .inr v393 => some v393)
def D_spec_ParseSchedule (fu : Nat) (a0 : ByteArray) : Option (Int × (List (List Int)) × Int) :=
 (D_spec_l01Read fu a0).bind fun (x104, rs105, b106) =>
 bif !b106 then
 (some (0, [], 6))
 else
 (some (x104, rs105, 0))
def D_impl_ParseSchedule_s1 (fu : Nat) (ss120 : List ByteArray) (x799 : Int) (ss1156 : List ByteArray) : ((List (List Int)) × Int) → Option (Lo ((List (List Int)) × Int) (List (List Int))) := fun (rs1286, x1290) =>
 bif decide (x1290 < ((ss1156.length : Nat) : Int)) then
 (chk (inR x1290 ss1156.length) <|
 (D_strings_Cut fu (rds ss1156 x1290.toNat) (⟨#[45]⟩ : ByteArray)).bind fun (s1369, s1370, b1371) =>
 bif !((rds ss120 x799.toNat : ByteArray).toList == ((⟨#[]⟩ : ByteArray) : ByteArray).toList) then
 ((D_impl_readNumber fu s1369).bind fun x1377 =>
 (D_impl_readNumber fu s1370).bind fun x1381 =>
 chk (rs1286.length + 1 ≤ 4294967296) <|
 chk (in64 (x1290 + 1)) <|
 some (.go ((rs1286 ++ [[x1377, x1381]]), x1290 + 1)))
 else
 (chk (in64 (x1290 + 1)) <|
 some (.go (rs1286, x1290 + 1))))
 else
 (some (.out rs1286))
def D_impl_ParseSchedule_s0 (fu : Nat) (x110 : Int) (ss120 : List ByteArray) : ((List (List Int)) × Int) → Option (Lo ((List (List Int)) × Int) ((List (List Int)) ⊕ (Int × (List (List Int)) × Int))) := fun (rs797, x799) =>
 bif decide (x799 < ((ss120.length : Nat) : Int)) then
 (chk (inR x799 ss120.length) <|
 (D_strings_Split fu (rds ss120 x799.toNat) (⟨#[44]⟩ : ByteArray)).bind fun ss1156 =>
 (loopF (D_impl_ParseSchedule_s1 fu ss120 x799 ss1156) fu ([], 0)).bind fun rs1345 =>
 (D_impl_RoundOf fu x110 rs1345).bind fun (xs1436, x1437) =>
 bif !decide (x1437 = 0) then
 (some (.out (.inr (0, [], 6))))
 else
 (chk (rs797.length + 1 ≤ 4294967296) <|
 chk (in64 (x799 + 1)) <|
 some (.go ((rs797 ++ [xs1436]), x799 + 1))))
 else
 (some (.out (.inl rs797)))
def D_impl_ParseSchedule (fu : Nat) (a0 : ByteArray) : Option (Int × (List (List Int)) × Int) :=
 (D_strings_Cut fu a0 (⟨#[58]⟩ : ByteArray)).bind fun (s104, s105, b106) =>
 (D_impl_readNumber fu s104).bind fun x110 =>
 (D_strings_Split fu s105 (⟨#[59]⟩ : ByteArray)).bind fun ss120 =>
 (loopF (D_impl_ParseSchedule_s0 fu x110 ss120) fu ([], 0)).bind fun
 | .inl rs1133 => (((D_impl_IsSchedule fu x110 rs1133).bind fun b1507 =>
 bif !b1507 then
 (some true)
 else
 ((D_impl_Schedule_text fu x110 rs1133).bind fun s1517 =>
 some (!((s1517 : ByteArray).toList == (a0 : ByteArray).toList)))).bind fun b1503 =>
 bif b1503 then
 (some (0, [], 6))
 else
 (some (x110, rs1133, 0)))
 | .inr v1542 => some v1542
end Go.Proofs.YtfiilgnebmidbaaDoor
