/-
  What functions of the program compute, printed by a program. No condition.
-/
import Derived.Test.YtdafmafigcljkaaDA
import Derived.Test.YtdafmafigcljkaaPw
import Derived.Test.YtdafmafigcljkaaAst
import Derived.Test.YtdafmafigcljkaaBit
namespace Go.Proofs.Ytdafmafigcljkaa
open Go Am
set_option linter.unusedVariables false
def D_math_bits_Len64 (fu : Nat) (a0 : Int) : Option Int :=
 bif decide (4294967296 ≤ a0) then
 (none)
 else
 (bif decide (65536 ≤ a0) then
 (none)
 else
 (bif decide (256 ≤ a0) then
 (none)
 else
 (chk (inR (IntKind.u8.wrap a0) ((⟨#[0, 1, 2, 2, 3, 3, 3, 3, 4, 4, 4, 4, 4, 4, 4, 4, 5, 5, 5, 5, 5, 5, 5, 5, 5, 5, 5, 5, 5, 5, 5, 5, 6, 6, 6, 6, 6, 6, 6, 6, 6, 6, 6, 6, 6, 6, 6, 6, 6, 6, 6, 6, 6, 6, 6, 6, 6, 6, 6, 6, 6, 6, 6, 6, 7, 7, 7, 7, 7, 7, 7, 7, 7, 7, 7, 7, 7, 7, 7, 7, 7, 7, 7, 7, 7, 7, 7, 7, 7, 7, 7, 7, 7, 7, 7, 7, 7, 7, 7, 7, 7, 7, 7, 7, 7, 7, 7, 7, 7, 7, 7, 7, 7, 7, 7, 7, 7, 7, 7, 7, 7, 7, 7, 7, 7, 7, 7, 7, 8, 8, 8, 8, 8, 8, 8, 8, 8, 8, 8, 8, 8, 8, 8, 8, 8, 8, 8, 8, 8, 8, 8, 8, 8, 8, 8, 8, 8, 8, 8, 8, 8, 8, 8, 8, 8, 8, 8, 8, 8, 8, 8, 8, 8, 8, 8, 8, 8, 8, 8, 8, 8, 8, 8, 8, 8, 8, 8, 8, 8, 8, 8, 8, 8, 8, 8, 8, 8, 8, 8, 8, 8, 8, 8, 8, 8, 8, 8, 8, 8, 8, 8, 8, 8, 8, 8, 8, 8, 8, 8, 8, 8, 8, 8, 8, 8, 8, 8, 8, 8, 8, 8, 8, 8, 8, 8, 8, 8, 8, 8, 8, 8, 8, 8, 8, 8, 8, 8, 8, 8, 8, 8, 8, 8, 8, 8, 8]⟩ : ByteArray) : ByteArray).size) <|
 chk (in64 (sby (⟨#[0, 1, 2, 2, 3, 3, 3, 3, 4, 4, 4, 4, 4, 4, 4, 4, 5, 5, 5, 5, 5, 5, 5, 5, 5, 5, 5, 5, 5, 5, 5, 5, 6, 6, 6, 6, 6, 6, 6, 6, 6, 6, 6, 6, 6, 6, 6, 6, 6, 6, 6, 6, 6, 6, 6, 6, 6, 6, 6, 6, 6, 6, 6, 6, 7, 7, 7, 7, 7, 7, 7, 7, 7, 7, 7, 7, 7, 7, 7, 7, 7, 7, 7, 7, 7, 7, 7, 7, 7, 7, 7, 7, 7, 7, 7, 7, 7, 7, 7, 7, 7, 7, 7, 7, 7, 7, 7, 7, 7, 7, 7, 7, 7, 7, 7, 7, 7, 7, 7, 7, 7, 7, 7, 7, 7, 7, 7, 7, 8, 8, 8, 8, 8, 8, 8, 8, 8, 8, 8, 8, 8, 8, 8, 8, 8, 8, 8, 8, 8, 8, 8, 8, 8, 8, 8, 8, 8, 8, 8, 8, 8, 8, 8, 8, 8, 8, 8, 8, 8, 8, 8, 8, 8, 8, 8, 8, 8, 8, 8, 8, 8, 8, 8, 8, 8, 8, 8, 8, 8, 8, 8, 8, 8, 8, 8, 8, 8, 8, 8, 8, 8, 8, 8, 8, 8, 8, 8, 8, 8, 8, 8, 8, 8, 8, 8, 8, 8, 8, 8, 8, 8, 8, 8, 8, 8, 8, 8, 8, 8, 8, 8, 8, 8, 8, 8, 8, 8, 8, 8, 8, 8, 8, 8, 8, 8, 8, 8, 8, 8, 8, 8, 8, 8, 8, 8, 8]⟩ : ByteArray) ((IntKind.u8.wrap a0).toNat))) <|
 chk (in64 (0 + (sby (⟨#[0, 1, 2, 2, 3, 3, 3, 3, 4, 4, 4, 4, 4, 4, 4, 4, 5, 5, 5, 5, 5, 5, 5, 5, 5, 5, 5, 5, 5, 5, 5, 5, 6, 6, 6, 6, 6, 6, 6, 6, 6, 6, 6, 6, 6, 6, 6, 6, 6, 6, 6, 6, 6, 6, 6, 6, 6, 6, 6, 6, 6, 6, 6, 6, 7, 7, 7, 7, 7, 7, 7, 7, 7, 7, 7, 7, 7, 7, 7, 7, 7, 7, 7, 7, 7, 7, 7, 7, 7, 7, 7, 7, 7, 7, 7, 7, 7, 7, 7, 7, 7, 7, 7, 7, 7, 7, 7, 7, 7, 7, 7, 7, 7, 7, 7, 7, 7, 7, 7, 7, 7, 7, 7, 7, 7, 7, 7, 7, 8, 8, 8, 8, 8, 8, 8, 8, 8, 8, 8, 8, 8, 8, 8, 8, 8, 8, 8, 8, 8, 8, 8, 8, 8, 8, 8, 8, 8, 8, 8, 8, 8, 8, 8, 8, 8, 8, 8, 8, 8, 8, 8, 8, 8, 8, 8, 8, 8, 8, 8, 8, 8, 8, 8, 8, 8, 8, 8, 8, 8, 8, 8, 8, 8, 8, 8, 8, 8, 8, 8, 8, 8, 8, 8, 8, 8, 8, 8, 8, 8, 8, 8, 8, 8, 8, 8, 8, 8, 8, 8, 8, 8, 8, 8, 8, 8, 8, 8, 8, 8, 8, 8, 8, 8, 8, 8, 8, 8, 8, 8, 8, 8, 8, 8, 8, 8, 8, 8, 8, 8, 8, 8, 8, 8, 8, 8, 8]⟩ : ByteArray) ((IntKind.u8.wrap a0).toNat)))) <|
 some (0 + (sby (⟨#[0, 1, 2, 2, 3, 3, 3, 3, 4, 4, 4, 4, 4, 4, 4, 4, 5, 5, 5, 5, 5, 5, 5, 5, 5, 5, 5, 5, 5, 5, 5, 5, 6, 6, 6, 6, 6, 6, 6, 6, 6, 6, 6, 6, 6, 6, 6, 6, 6, 6, 6, 6, 6, 6, 6, 6, 6, 6, 6, 6, 6, 6, 6, 6, 7, 7, 7, 7, 7, 7, 7, 7, 7, 7, 7, 7, 7, 7, 7, 7, 7, 7, 7, 7, 7, 7, 7, 7, 7, 7, 7, 7, 7, 7, 7, 7, 7, 7, 7, 7, 7, 7, 7, 7, 7, 7, 7, 7, 7, 7, 7, 7, 7, 7, 7, 7, 7, 7, 7, 7, 7, 7, 7, 7, 7, 7, 7, 7, 8, 8, 8, 8, 8, 8, 8, 8, 8, 8, 8, 8, 8, 8, 8, 8, 8, 8, 8, 8, 8, 8, 8, 8, 8, 8, 8, 8, 8, 8, 8, 8, 8, 8, 8, 8, 8, 8, 8, 8, 8, 8, 8, 8, 8, 8, 8, 8, 8, 8, 8, 8, 8, 8, 8, 8, 8, 8, 8, 8, 8, 8, 8, 8, 8, 8, 8, 8, 8, 8, 8, 8, 8, 8, 8, 8, 8, 8, 8, 8, 8, 8, 8, 8, 8, 8, 8, 8, 8, 8, 8, 8, 8, 8, 8, 8, 8, 8, 8, 8, 8, 8, 8, 8, 8, 8, 8, 8, 8, 8, 8, 8, 8, 8, 8, 8, 8, 8, 8, 8, 8, 8, 8, 8, 8, 8, 8, 8]⟩ : ByteArray) ((IntKind.u8.wrap a0).toNat))))))
def D_math_bits_Len (fu : Nat) (a0 : Int) : Option Int :=
 (D_math_bits_Len64 fu a0).bind fun x100 =>
 some x100
def D_cmp_isNaN_int64 (fu : Nat) (a0 : Int) : Option Bool :=
 some (!decide (a0 = a0))
def D_cmp_Compare_int64 (fu : Nat) (a0 : Int) (a1 : Int) : Option Int :=
 (D_cmp_isNaN_int64 fu a0).bind fun b100 =>
 (D_cmp_isNaN_int64 fu a1).bind fun b104 =>
 bif b100 then
 (bif b104 then
 (some 0)
 else
 (some (-1)))
 else
 (bif b104 then
 (some 1)
 else
 (bif decide (a0 < a1) then
 (some (-1))
 else
 (bif decide (a1 < a0) then
 (some 1)
 else
 (some 0))))
def D_slices_Compare_Sint64_int64_s0 (fu : Nat) (a0 : List Int) (a1 : List Int) : Int → Option (Lo Int (Unit ⊕ Int)) := fun x145 =>
 bif decide (x145 < ((a0.length : Nat) : Int)) then
 (chk (inR x145 a0.length) <|
 bif decide (((a1.length : Nat) : Int) ≤ x145) then
 (some (.out (.inr 1)))
 else
 (chk (inR x145 a1.length) <|
 (D_cmp_Compare_int64 fu (rd a0 x145.toNat) (rd a1 x145.toNat)).bind fun x188 =>
 bif !decide (x188 = 0) then
 (some (.out (.inr x188)))
 else
 (chk (in64 (x145 + 1)) <|
 some (.go (x145 + 1)))))
 else
 (some (.out (.inl ())))
def D_slices_Compare_Sint64_int64 (fu : Nat) (a0 : List Int) (a1 : List Int) : Option Int :=
 (loopF (D_slices_Compare_Sint64_int64_s0 fu a0 a1) fu 0).bind fun
 | .inl _ => (bif decide (((a0.length : Nat) : Int) < ((a1.length : Nat) : Int)) then
 (some (-1))
 else
 (some 0))
 | .inr v206 => some v206
def D_slices_insertionSortCmpFunc_Sint64__slices_Compare_Sint64_int64_s1 (fu : Nat) (a1 : Int) (k_n0 : Nat) : ((List (List Int)) × Int) → Option (Lo ((List (List Int)) × Int) (List (List Int))) := fun (rs1519, x1521) =>
 (bif decide (a1 < x1521) then
 (chk (inR x1521 k_n0) <|
 chk (in64 (x1521 - 1)) <|
 chk (inR (x1521 - 1) k_n0) <|
 (D_slices_Compare_Sint64_int64 fu (rw_ rs1519 x1521.toNat) (rw_ rs1519 ((x1521 - 1).toNat))).bind fun x1670 =>
 some (decide (x1670 < 0)))
 else
 (some false)).bind fun b1650 =>
 bif b1650 then
 (chk (in64 (x1521 - 1)) <|
 chk (in64 (x1521 - 1)) <|
 chk (inR (x1521 - 1) k_n0) <|
 chk (inR x1521 k_n0) <|
 chk (inR x1521 k_n0) <|
 chk (inR (x1521 - 1) k_n0) <|
 chk (in64 (x1521 - 1)) <|
 some (.go (((rs1519.set x1521.toNat (rw_ rs1519 ((x1521 - 1).toNat))).set ((x1521 - 1).toNat) (rw_ rs1519 x1521.toNat)), x1521 - 1)))
 else
 (some (.out rs1519))
def D_slices_insertionSortCmpFunc_Sint64__slices_Compare_Sint64_int64_s0 (fu : Nat) (a1 : Int) (a2 : Int) (k_n0 : Nat) : ((List (List Int)) × Int) → Option (Lo ((List (List Int)) × Int) (List (List Int))) := fun (rs910, x912) =>
 bif decide (x912 < a2) then
 ((loopF (D_slices_insertionSortCmpFunc_Sint64__slices_Compare_Sint64_int64_s1 fu a1 k_n0) fu (rs910, x912)).bind fun rs1614 =>
 chk (in64 (x912 + 1)) <|
 some (.go (rs1614, x912 + 1)))
 else
 (some (.out rs910))
def D_slices_insertionSortCmpFunc_Sint64__slices_Compare_Sint64_int64 (fu : Nat) (a1 : Int) (a2 : Int) (k_n0 : Nat) (n0 : List (List Int)) : Option (List (List Int)) :=
 chk (in64 (a1 + 1)) <|
 (loopF (D_slices_insertionSortCmpFunc_Sint64__slices_Compare_Sint64_int64_s0 fu a1 a2 k_n0) fu (n0, a1 + 1)).bind fun rs1315 =>
 some rs1315
def D_slices_pdqsortCmpFunc_Sint64__slices_Compare_Sint64_int64_s0 (fu : Nat) (a1 : Int) (a2 : Int) (k_n0 : Nat) (n0 : List (List Int)) : Unit → Option (Lo Unit (List (List Int))) := fun _ =>
 chk (in64 (a2 - a1)) <|
 bif decide (a2 - a1 ≤ 12) then
 ((D_slices_insertionSortCmpFunc_Sint64__slices_Compare_Sint64_int64 fu a1 a2 k_n0 n0).bind fun rs165 =>
 some (.out rs165))
 else
 (none)
def D_slices_pdqsortCmpFunc_Sint64__slices_Compare_Sint64_int64 : Nat → Int → Int → Int → Nat → (List (List Int)) → Option (List (List Int))
 | 0, _, _, _, _, _ => none
 | fu + 1, a1, a2, a3, k_n0, n0 =>
 (loopF (D_slices_pdqsortCmpFunc_Sint64__slices_Compare_Sint64_int64_s0 fu a1 a2 k_n0 n0) fu ()).bind fun v180 =>
 some v180
def D_slices_SortFunc_SSint64_Sint64__slices_Compare_Sint64_int64 (fu : Nat) (k_n0 : Nat) (n0 : List (List Int)) : Option (List (List Int)) :=
 (D_math_bits_Len fu (IntKind.u64.wrap ((k_n0 : Nat) : Int))).bind fun x100 =>
 (D_slices_pdqsortCmpFunc_Sint64__slices_Compare_Sint64_int64 fu 0 ((k_n0 : Nat) : Int) x100 k_n0 n0).bind fun rs107 =>
 some rs107
def D_impl_sortedPairs_s0 (fu : Nat) (a0 : List (List Int)) : ((List (List Int)) × Int) → Option (Lo ((List (List Int)) × Int) (List (List Int))) := fun (rs196, x198) =>
 bif decide (x198 < ((a0.length : Nat) : Int)) then
 (chk (inR x198 a0.length) <|
 chk (inR 0 ((rw_ a0 x198.toNat).length)) <|
 chk (inR 1 ((rw_ a0 x198.toNat).length)) <|
 chk (inR 0 ((rw_ a0 x198.toNat).length)) <|
 chk (inR 1 ((rw_ a0 x198.toNat).length)) <|
 chk (rs196.length + 1 ≤ 4294967296) <|
 chk (in64 (x198 + 1)) <|
 some (.go ((rs196 ++ [[(if rd (rw_ a0 x198.toNat) 1 < rd (rw_ a0 x198.toNat) 0 then rd (rw_ a0 x198.toNat) 1 else rd (rw_ a0 x198.toNat) 0), (if rd (rw_ a0 x198.toNat) 1 > rd (rw_ a0 x198.toNat) 0 then rd (rw_ a0 x198.toNat) 1 else rd (rw_ a0 x198.toNat) 0)]]), x198 + 1)))
 else
 (some (.out rs196))
def D_impl_sortedPairs (fu : Nat) (a0 : List (List Int)) : Option (List (List Int)) :=
 (loopF (D_impl_sortedPairs_s0 fu a0) fu ([], 0)).bind fun rs243 =>
 (D_slices_SortFunc_SSint64_Sint64__slices_Compare_Sint64_int64 fu rs243.length rs243).bind fun rs305 =>
 some rs305
end Go.Proofs.Ytdafmafigcljkaa
