/-
  What functions of the program compute, printed by a program. No condition.
-/
import Derived.Test.YtfiilgnebmidbaaDoorDE
import Derived.Test.YtfiilgnebmidbaaDoorDD
namespace Go.Proofs.YtfiilgnebmidbaaDoor
open Go Am
set_option linter.unusedVariables false
def D_spec_l01Pairs_s0 (fu : Nat) (a0 : Int) (a1 : List Int) : ((List (List Int)) × Int) → Option (Lo ((List (List Int)) × Int) (List (List Int))) := fun (rs189, x191) =>
 bif decide (x191 < a0) then
 (chk (inR x191 14) <|
 bif decide (x191 < rd a1 x191.toNat) then
 (chk (inR x191 14) <|
 chk (rs189.length + 1 ≤ 4294967296) <|
 chk (in64 (x191 + 1)) <|
 some (.go ((rs189 ++ [[x191, rd a1 x191.toNat]]), x191 + 1)))
 else
 (chk (in64 (x191 + 1)) <|
 some (.go (rs189, x191 + 1))))
 else
 (some (.out rs189))
def D_spec_l01Pairs (fu : Nat) (a0 : Int) (a1 : List Int) : Option (List (List Int)) :=
 (loopF (D_spec_l01Pairs_s0 fu a0 a1) fu ([], 0)).bind fun rs231 =>
 some rs231
def D_spec_l01RoundText_s0 (fu : Nat) (rs104 : List (List Int)) : (ByteArray × Int) → Option (Lo (ByteArray × Int) ByteArray) := fun (s243, x244) =>
 bif decide (x244 < ((rs104.length : Nat) : Int)) then
 ((bif decide (0 < x244) then
 (chk ((s243 : ByteArray).size + ((⟨#[44]⟩ : ByteArray) : ByteArray).size ≤ 9223372036854775807) <|
 some (s243 ++ (⟨#[44]⟩ : ByteArray)))
 else
 (some s243)).bind fun s327 =>
 chk (inR x244 rs104.length) <|
 chk (inR 0 ((rw_ rs104 x244.toNat).length)) <|
 (D_spec_l01Dec fu (rd (rw_ rs104 x244.toNat) 0)).bind fun s351 =>
 chk ((s327 : ByteArray).size + (s351 : ByteArray).size ≤ 9223372036854775807) <|
 chk ((s327 ++ s351 : ByteArray).size + ((⟨#[45]⟩ : ByteArray) : ByteArray).size ≤ 9223372036854775807) <|
 chk (inR x244 rs104.length) <|
 chk (inR 1 ((rw_ rs104 x244.toNat).length)) <|
 (D_spec_l01Dec fu (rd (rw_ rs104 x244.toNat) 1)).bind fun s367 =>
 chk (((s327 ++ s351) ++ (⟨#[45]⟩ : ByteArray) : ByteArray).size + (s367 : ByteArray).size ≤ 9223372036854775807) <|
 chk (in64 (x244 + 1)) <|
 some (.go (((s327 ++ s351) ++ (⟨#[45]⟩ : ByteArray)) ++ s367, x244 + 1)))
 else
 (some (.out s243))
def D_spec_l01RoundText (fu : Nat) (a0 : Int) (a1 : List Int) : Option ByteArray :=
 (D_spec_l01Pairs fu a0 a1).bind fun rs104 =>
 (loopF (D_spec_l01RoundText_s0 fu rs104) fu ((⟨#[]⟩ : ByteArray), 0)).bind fun s305 =>
 some s305
def D_spec_l01Text_s0 (fu : Nat) (a0_0 : Int) (a0_1 : List (List Int)) : (ByteArray × Int) → Option (Lo (ByteArray × Int) ByteArray) := fun (s187, x188) =>
 bif decide (x188 < ((a0_1.length : Nat) : Int)) then
 ((bif decide (0 < x188) then
 (chk ((s187 : ByteArray).size + ((⟨#[59]⟩ : ByteArray) : ByteArray).size ≤ 9223372036854775807) <|
 some (s187 ++ (⟨#[59]⟩ : ByteArray)))
 else
 (some s187)).bind fun s245 =>
 chk (inR x188 a0_1.length) <|
 (D_spec_l01RoundText fu a0_0 (rw_ a0_1 x188.toNat)).bind fun s261 =>
 chk ((s245 : ByteArray).size + (s261 : ByteArray).size ≤ 9223372036854775807) <|
 chk (in64 (x188 + 1)) <|
 some (.go (s245 ++ s261, x188 + 1)))
 else
 (some (.out s187))
def D_spec_l01Text (fu : Nat) (a0_0 : Int) (a0_1 : List (List Int)) : Option ByteArray :=
 (D_spec_l01Dec fu a0_0).bind fun s104 =>
 chk ((s104 : ByteArray).size + ((⟨#[58]⟩ : ByteArray) : ByteArray).size ≤ 9223372036854775807) <|
 (loopF (D_spec_l01Text_s0 fu a0_0 a0_1) fu (s104 ++ (⟨#[58]⟩ : ByteArray), 0)).bind fun s225 =>
 some s225
def D_impl_Round_pairs_s0 (fu : Nat) (a0 : List Int) (a1 : Int) : ((List (List Int)) × Int) → Option (Lo ((List (List Int)) × Int) (List (List Int))) := fun (rs189, x191) =>
 bif decide (x191 < a1) then
 (chk (inR x191 14) <|
 bif decide (x191 < rd a0 x191.toNat) then
 (chk (inR x191 14) <|
 chk (rs189.length + 1 ≤ 4294967296) <|
 chk (in64 (x191 + 1)) <|
 some (.go ((rs189 ++ [[x191, rd a0 x191.toNat]]), x191 + 1)))
 else
 (chk (in64 (x191 + 1)) <|
 some (.go (rs189, x191 + 1))))
 else
 (some (.out rs189))
def D_impl_Round_pairs (fu : Nat) (a0 : List Int) (a1 : Int) : Option (List (List Int)) :=
 (loopF (D_impl_Round_pairs_s0 fu a0 a1) fu ([], 0)).bind fun rs231 =>
 some rs231
def D_impl_Schedule_text_s1 (fu : Nat) (rs963 : List (List Int)) : ((List ByteArray) × Int) → Option (Lo ((List ByteArray) × Int) (List ByteArray)) := fun (ss1078, x1080) =>
 bif decide (x1080 < ((rs963.length : Nat) : Int)) then
 (chk (inR x1080 rs963.length) <|
 chk (inR 0 ((rw_ rs963 x1080.toNat).length)) <|
 (D_impl_decimal fu (rd (rw_ rs963 x1080.toNat) 0)).bind fun s1155 =>
 chk ((s1155 : ByteArray).size + ((⟨#[45]⟩ : ByteArray) : ByteArray).size ≤ 9223372036854775807) <|
 chk (inR 1 ((rw_ rs963 x1080.toNat).length)) <|
 (D_impl_decimal fu (rd (rw_ rs963 x1080.toNat) 1)).bind fun s1163 =>
 chk ((s1155 ++ (⟨#[45]⟩ : ByteArray) : ByteArray).size + (s1163 : ByteArray).size ≤ 9223372036854775807) <|
 chk (ss1078.length + 1 ≤ 4294967296) <|
 chk (in64 (x1080 + 1)) <|
 some (.go ((ss1078 ++ [(s1155 ++ (⟨#[45]⟩ : ByteArray)) ++ s1163]), x1080 + 1)))
 else
 (some (.out ss1078))
def D_impl_Schedule_text_s0 (fu : Nat) (a0_0 : Int) (a0_1 : List (List Int)) : ((List ByteArray) × Int) → Option (Lo ((List ByteArray) × Int) (List ByteArray)) := fun (ss660, x661) =>
 bif decide (x661 < ((a0_1.length : Nat) : Int)) then
 (chk (inR x661 a0_1.length) <|
 (D_impl_Round_pairs fu (rw_ a0_1 x661.toNat) a0_0).bind fun rs963 =>
 (loopF (D_impl_Schedule_text_s1 fu rs963) fu ([], 0)).bind fun ss1128 =>
 (D_strings_Join fu ss1128 (⟨#[44]⟩ : ByteArray)).bind fun s1197 =>
 chk (ss660.length + 1 ≤ 4294967296) <|
 chk (in64 (x661 + 1)) <|
 some (.go ((ss660 ++ [s1197]), x661 + 1)))
 else
 (some (.out ss660))
def D_impl_Schedule_text (fu : Nat) (a0_0 : Int) (a0_1 : List (List Int)) : Option ByteArray :=
 (loopF (D_impl_Schedule_text_s0 fu a0_0 a0_1) fu ([], 0)).bind fun ss936 =>
 (D_impl_decimal fu a0_0).bind fun s1225 =>
 chk ((s1225 : ByteArray).size + ((⟨#[58]⟩ : ByteArray) : ByteArray).size ≤ 9223372036854775807) <|
 (D_strings_Join fu ss936 (⟨#[59]⟩ : ByteArray)).bind fun s1231 =>
 chk ((s1225 ++ (⟨#[58]⟩ : ByteArray) : ByteArray).size + (s1231 : ByteArray).size ≤ 9223372036854775807) <|
 some ((s1225 ++ (⟨#[58]⟩ : ByteArray)) ++ s1231)
def D_spec_ScheduleText (fu : Nat) (a0_0 : Int) (a0_1 : List (List Int)) : Option (ByteArray × Int) :=
 (D_spec_l01Is fu a0_0 a0_1).bind fun b104 =>
 bif !b104 then
 (some ((⟨#[]⟩ : ByteArray), 1))
 else
 (bif decide (((a0_1.length : Nat) : Int) = 0) then
 (some ((⟨#[]⟩ : ByteArray), 5))
 else
 ((D_spec_l01Text fu a0_0 a0_1).bind fun s116 =>
 some (s116, 0)))
def D_impl_ScheduleText (fu : Nat) (a0_0 : Int) (a0_1 : List (List Int)) : Option (ByteArray × Int) :=
 (D_impl_scheduleCode fu a0_0 a0_1 (fun _ => D_impl_always fu )).bind fun x104 =>
 (bif (decide (x104 = 0)) && (decide (((a0_1.length : Nat) : Int) = 0)) then
 (some 5)
 else
 (some x104)).bind fun x117 =>
 bif !decide (x117 = 0) then
 (some ((⟨#[]⟩ : ByteArray), x117))
 else
 ((D_impl_Schedule_text fu a0_0 a0_1).bind fun s133 =>
 some (s133, 0))
end Go.Proofs.YtfiilgnebmidbaaDoor
