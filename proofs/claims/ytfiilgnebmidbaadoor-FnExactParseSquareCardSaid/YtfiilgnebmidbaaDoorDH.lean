/-
  What functions of the program compute, printed by a program. No condition.
-/
import Derived.Test.YtfiilgnebmidbaaDoorDF
import Derived.Test.YtfiilgnebmidbaaDoorDPa
namespace Go.Proofs.YtfiilgnebmidbaaDoor
open Go Am
set_option linter.unusedVariables false
def D_spec_l01Number_s0 (fu : Nat) (a0 : ByteArray) : (Int × Int) → Option (Lo (Int × Int) (Int ⊕ Int)) := fun (x218, x219) =>
 bif decide (x219 < ((a0.size : Nat) : Int)) then
 ((chk (inR x219 (a0 : ByteArray).size) <|
 bif decide (sby a0 x219.toNat < 48) then
 (some true)
 else
 (chk (inR x219 (a0 : ByteArray).size) <|
 some (decide (57 < sby a0 x219.toNat)))).bind fun b282 =>
 bif b282 then
 (some (.out (.inr (-1))))
 else
 (chk (in64 (x218 * 10)) <|
 chk (inR x219 (a0 : ByteArray).size) <|
 chk (0 ≤ (sby a0 x219.toNat) - 48 ∧ (sby a0 x219.toNat) - 48 < 256) <|
 chk (in64 (sby a0 x219.toNat - 48)) <|
 chk (in64 (x218 * 10 + (sby a0 x219.toNat - 48))) <|
 chk (in64 (x219 + 1)) <|
 some (.go (x218 * 10 + (sby a0 x219.toNat - 48), x219 + 1))))
 else
 (some (.out (.inl x218)))
def D_spec_l01Number (fu : Nat) (a0 : ByteArray) : Option Int :=
 (bif decide (((a0.size : Nat) : Int) = 0) then
 (some true)
 else
 (bif decide (9 < ((a0.size : Nat) : Int)) then
 (some true)
 else
 (bif decide (1 < ((a0.size : Nat) : Int)) then
 (chk (inR 0 (a0 : ByteArray).size) <|
 some (decide (sby a0 0 = 48)))
 else
 (some false)))).bind fun b111 =>
 bif b111 then
 (some (-1))
 else
 ((loopF (D_spec_l01Number_s0 fu a0) fu (0, 0)).bind fun
 | .inl x262 => (some x262)
 | .inr v317 => some v317)
def D_spec_l01Split_s0 (fu : Nat) (a0 : ByteArray) (a1 : Int) : ((List ByteArray) × Int × Int) → Option (Lo ((List ByteArray) × Int × Int) ((List ByteArray) × Int)) := fun (ss176, x177, x178) =>
 bif decide (x178 < ((a0.size : Nat) : Int)) then
 (chk (inR x178 (a0 : ByteArray).size) <|
 bif decide (sby a0 x178.toNat = a1) then
 (chk (0 ≤ x177 ∧ x177 ≤ x178 ∧ x178 ≤ (((a0 : ByteArray).size : Nat) : Int)) <|
 chk (ss176.length + 1 ≤ 4294967296) <|
 chk (in64 (x178 + 1)) <|
 chk (in64 (x178 + 1)) <|
 some (.go ((ss176 ++ [(a0 : ByteArray).extract x177.toNat x178.toNat]), x178 + 1, x178 + 1)))
 else
 (chk (in64 (x178 + 1)) <|
 some (.go (ss176, x177, x178 + 1))))
 else
 (some (.out (ss176, x177)))
def D_spec_l01Split (fu : Nat) (a0 : ByteArray) (a1 : Int) : Option (List ByteArray) :=
 (loopF (D_spec_l01Split_s0 fu a0 a1) fu ([], 0, 0)).bind fun (ss213, x214) =>
 chk (0 ≤ x214 ∧ x214 ≤ (((a0 : ByteArray).size : Nat) : Int)) <|
 chk (ss213.length + 1 ≤ 4294967296) <|
 some (ss213 ++ [(a0 : ByteArray).extract x214.toNat (a0 : ByteArray).size])
def D_spec_l04Cell (fu : Nat) (a0 : ByteArray) : Option (Int × Bool) :=
 bif ((a0 : ByteArray).toList == ((⟨#[46]⟩ : ByteArray) : ByteArray).toList) then
 (some ((-1), true))
 else
 ((D_spec_l01Split fu a0 45).bind fun ss104 =>
 bif !decide (((ss104.length : Nat) : Int) = 2) then
 (some (0, false))
 else
 (chk (inR 0 ss104.length) <|
 (D_spec_l01Number fu (rds ss104 0)).bind fun x121 =>
 chk (inR 1 ss104.length) <|
 (D_spec_l01Number fu (rds ss104 1)).bind fun x127 =>
 ((D_spec_l01In fu x121 0 13).bind fun b146 =>
 bif !b146 then
 (some true)
 else
 ((D_spec_l01In fu x127 0 13).bind fun b154 =>
 some (!b154))).bind fun b142 =>
 bif b142 then
 (some (0, false))
 else
 (chk (in64 (14 * x121)) <|
 chk (in64 (14 * x121 + x127)) <|
 some (14 * x121 + x127, true))))
def D_spec_ParseSquare_s1 (fu : Nat) (ss941 : List ByteArray) : ((List Int) × Int) → Option (Lo ((List Int) × Int) ((List Int) ⊕ (Int × (List (List Int)) × Int))) := fun (xs1050, x1051) =>
 bif decide (x1051 < ((ss941.length : Nat) : Int)) then
 (chk (inR x1051 ss941.length) <|
 (D_spec_l04Cell fu (rds ss941 x1051.toNat)).bind fun (x1116, b1117) =>
 bif !b1117 then
 (some (.out (.inr (0, [], 6))))
 else
 (chk (xs1050.length + 1 ≤ 4294967296) <|
 chk (in64 (x1051 + 1)) <|
 some (.go ((xs1050 ++ [x1116]), x1051 + 1))))
 else
 (some (.out (.inl xs1050)))
def D_spec_ParseSquare_s0 (fu : Nat) (ss143 : List ByteArray) : ((List (List Int)) × Int) → Option (Lo ((List (List Int)) × Int) ((List (List Int)) ⊕ (Int × (List (List Int)) × Int))) := fun (rs664, x667) =>
 bif decide (x667 < ((ss143.length : Nat) : Int)) then
 (chk (inR x667 ss143.length) <|
 (D_spec_l01Split fu (rds ss143 x667.toNat) 44).bind fun ss941 =>
 (loopF (D_spec_ParseSquare_s1 fu ss941) fu ([], 0)).bind fun
 | .inl xs1094 => (chk (rs664.length + 1 ≤ 4294967296) <|
 chk (in64 (x667 + 1)) <|
 some (.go ((rs664 ++ [xs1094]), x667 + 1)))
 | .inr v1191 => some (.out (.inr v1191)))
 else
 (some (.out (.inl rs664)))
def D_spec_ParseSquare (fu : Nat) (a0 : ByteArray) : Option (Int × (List (List Int)) × Int) :=
 (D_spec_l01Split fu a0 58).bind fun ss104 =>
 bif !decide (((ss104.length : Nat) : Int) = 2) then
 (some (0, [], 6))
 else
 (chk (inR 0 ss104.length) <|
 (D_spec_l01Number fu (rds ss104 0)).bind fun x127 =>
 chk (inR 1 ss104.length) <|
 (D_spec_l01Split fu (rds ss104 1) 59).bind fun ss143 =>
 (loopF (D_spec_ParseSquare_s0 fu ss143) fu ([], 0)).bind fun
 | .inl rs919 => ((D_spec_l04Is fu x127 rs919).bind fun b1201 =>
 bif !b1201 then
 (some (0, [], 6))
 else
 (some (x127, rs919, 0)))
 | .inr v1222 => some v1222)
def D_impl_ParseSquare_s1 (fu : Nat) (ss2836 : List ByteArray) : ((List Int) × Int) → Option (Lo ((List Int) × Int) ((List Int) ⊕ (Int × (List (List Int)) × Int))) := fun (xs3271, x3274) =>
 bif decide (x3274 < ((ss2836.length : Nat) : Int)) then
 (chk (inR x3274 ss2836.length) <|
 (D_strings_Cut fu (rds ss2836 x3274.toNat) (⟨#[45]⟩ : ByteArray)).bind fun (s3505, s3506, b3507) =>
 ((bif b3507 then
 ((D_impl_readNumber fu s3505).bind fun x3596 =>
 (D_impl_readNumber fu s3506).bind fun x3600 =>
 ((D_impl_between fu x3596 0 13).bind fun b3625 =>
 bif !b3625 then
 (some true)
 else
 ((D_impl_between fu x3600 0 13).bind fun b3639 =>
 some (!b3639))).bind fun b3621 =>
 bif b3621 then
 (some (.inr (0, [], 6)))
 else
 (chk (in64 (14 * x3596)) <|
 chk (in64 (14 * x3596 + x3600)) <|
 some (.inl (14 * x3596 + x3600))))
 else
 (some (.inl (-1))) : Option (Int ⊕ (Int × (List (List Int)) × Int)))).bind fun
 | .inl x3588 => (chk (xs3271.length + 1 ≤ 4294967296) <|
 chk (in64 (x3274 + 1)) <|
 some (.go ((xs3271 ++ [x3588]), x3274 + 1)))
 | .inr v3710 => some (.out (.inr v3710)))
 else
 (some (.out (.inl xs3271)))
def D_impl_ParseSquare_s0 (fu : Nat) (ss120 : List ByteArray) : ((List (List Int)) × Int) → Option (Lo ((List (List Int)) × Int) ((List (List Int)) ⊕ (Int × (List (List Int)) × Int))) := fun (rs1895, x1898) =>
 bif decide (x1898 < ((ss120.length : Nat) : Int)) then
 (chk (inR x1898 ss120.length) <|
 (D_strings_Split fu (rds ss120 x1898.toNat) (⟨#[44]⟩ : ByteArray)).bind fun ss2836 =>
 (loopF (D_impl_ParseSquare_s1 fu ss2836) fu ([], 0)).bind fun
 | .inl xs3482 => (chk (rs1895.length + 1 ≤ 4294967296) <|
 chk (in64 (x1898 + 1)) <|
 some (.go ((rs1895 ++ [xs3482]), x1898 + 1)))
 | .inr v3747 => some (.out (.inr v3747)))
 else
 (some (.out (.inl rs1895)))
def D_impl_ParseSquare (fu : Nat) (a0 : ByteArray) : Option (Int × (List (List Int)) × Int) :=
 (D_strings_Cut fu a0 (⟨#[58]⟩ : ByteArray)).bind fun (s104, s105, b106) =>
 (D_impl_readNumber fu s104).bind fun x110 =>
 (D_strings_Split fu s105 (⟨#[59]⟩ : ByteArray)).bind fun ss120 =>
 (loopF (D_impl_ParseSquare_s0 fu ss120) fu ([], 0)).bind fun
 | .inl rs2811 => (((D_impl_IsSquare fu x110 rs2811).bind fun b3775 =>
 bif !b3775 then
 (some true)
 else
 ((D_impl_Square_text fu x110 rs2811).bind fun s3786 =>
 some (!((s3786 : ByteArray).toList == (a0 : ByteArray).toList)))).bind fun b3771 =>
 bif b3771 then
 (some (0, [], 6))
 else
 (some (x110, rs2811, 0)))
 | .inr v3814 => some v3814
end Go.Proofs.YtfiilgnebmidbaaDoor
