/-
  CountStarters: at six moduli by reckoning, elsewhere at once. Plain Lean, no program, no condition.
-/
import Derived.Test.YtdafmafigcljkaaDA
import Derived.Test.YtdafmafigcljkaaDC
import Derived.Test.YtdafmafigcljkaaDE
import Derived.Test.YtdafmafigcljkaaDX
import Derived.KernelRfl
namespace Go.Proofs.Ytdafmafigcljkaa
open Go Am
set_option linter.unusedVariables false
set_option linter.unusedSimpArgs false

theorem modI {fu : Nat} {a : Int} (h : ¬ (3 ≤ a ∧ a ≤ 13 ∧ a.tmod 2 = 1)) : D_impl_isModulus fu a = some false := by
  unfold D_impl_isModulus D_impl_between
  simp only [Option.bind_some]
  cases e : (decide (3 ≤ a) && decide (a ≤ 13)) with
  | false => rfl
  | true =>
    simp only [Bool.and_eq_true, decide_eq_true_eq] at e
    rw [decide_eq_false (fun h3 => h ⟨e.1, e.2, h3⟩)]; rfl
theorem modS {fu : Nat} {a : Int} (h : ¬ (3 ≤ a ∧ a ≤ 13 ∧ a.tmod 2 = 1)) : D_spec_l03Modulus fu a = some false := by
  unfold D_spec_l03Modulus D_spec_l01In
  simp only [Option.bind_some]
  cases e : (decide (3 ≤ a) && decide (a ≤ 13)) with
  | false => rfl
  | true =>
    simp only [Bool.and_eq_true, decide_eq_true_eq] at e
    rw [decide_eq_false (fun h3 => h ⟨e.1, e.2, h3⟩)]; rfl
theorem six {a : Int} (h : 3 ≤ a ∧ a ≤ 13 ∧ a.tmod 2 = 1) : a = 3 ∨ a = 5 ∨ a = 7 ∨ a = 9 ∨ a = 11 ∨ a = 13 := by
  obtain ⟨h1, h2, h3⟩ := h
  rw [Int.tmod_eq_emod_of_nonneg (by omega)] at h3
  omega
theorem loop_mono {S R : Type} {f g : S → Option (Lo S R)} (hm : ∀ s o, f s = some o → g s = some o) : ∀ {n : Nat} {s : S} {r : R}, Am.loopF f n s = some r → Am.loopF g n s = some r
  | 0, s, r, h => by cases h
  | n + 1, s, r, h => by
    unfold Am.loopF at h ⊢
    cases e : f s with
    | none => rw [e] at h; cases h
    | some o =>
      rw [e] at h; rw [hm s o e]
      cases o with
      | go s' => exact loop_mono hm h
      | out r' => exact h
theorem bif_mono {α : Type} {c : Bool} {a a' b b' : Option α} (h1 : ∀ r, a = some r → a' = some r) (h2 : ∀ r, b = some r → b' = some r) : ∀ r, (bif c then a else b) = some r → (bif c then a' else b') = some r := by
  cases c with
  | true => exact h1
  | false => exact h2
theorem chk_mono {α : Type} {p : Prop} [Decidable p] {a b : Option α} (h : ∀ r, a = some r → b = some r) : ∀ r, chk p a = some r → chk p b = some r := fun r e => by
  obtain ⟨h1, h2⟩ := chk_some e
  rw [chk_t h1]; exact h r h2
theorem bind_mono {α β : Type} {a a' : Option α} {f g : α → Option β} (h1 : ∀ r, a = some r → a' = some r) (h2 : ∀ x r, f x = some r → g x = some r) : ∀ r, a.bind f = some r → a'.bind g = some r := fun r e => by
  obtain ⟨x, e1, e2⟩ := bnd_some e
  rw [h1 x e1]; exact h2 x r e2
theorem search_mono {f g : Int → List (List Int) → Bool → Int → Option (List (List (List Int)))} (hm : ∀ a b c d r, f a b c d = some r → g a b c d = some r) (fu : Nat) (a0 : Int) (a1 : List (List Int)) (a2 : Bool) (a3 : Int) (b1 b2 b3 : List Bool) (x : Int) :
    ∀ s o, D_spec_l03Search_s2 f fu a0 a1 a2 a3 b1 b2 b3 x s = some o → D_spec_l03Search_s2 g fu a0 a1 a2 a3 b1 b2 b3 x s = some o := by
  rintro ⟨rss, y⟩ o
  unfold D_spec_l03Search_s2
  dsimp only
  refine bif_mono (chk_mono (chk_mono (bind_mono (fun _ h => h) fun b => bif_mono (fun _ h => h) (chk_mono (chk_mono (chk_mono (bind_mono (hm _ _ _ _) fun _ _ h => h))))))) (fun _ h => h) o
def A2 : List (List (List Int)) := [[[1, 2], [3, 6], [4, 9], [5, 12], [7, 11], [8, 10]], [[1, 2], [3, 6], [4, 11], [5, 9], [7, 12], [8, 10]], [[1, 2], [3, 6], [4, 11], [5, 10], [7, 9], [8, 12]], [[1, 2], [3, 7], [4, 11], [5, 10], [6, 8], [9, 12]], [[1, 2], [3, 7], [4, 12], [5, 11], [6, 9], [8, 10]], [[1, 2], [3, 8], [4, 7], [5, 12], [6, 10], [9, 11]], [[1, 2], [3, 8], [4, 11], [5, 7], [6, 10], [9, 12]], [[1, 2], [3, 9], [4, 12], [5, 7], [6, 10], [8, 11]], [[1, 2], [3, 10], [4, 6], [5, 9], [7, 12], [8, 11]], [[1, 2], [3, 10], [4, 8], [5, 7], [6, 11], [9, 12]], [[1, 2], [3, 11], [4, 7], [5, 9], [6, 12], [8, 10]], [[1, 2], [3, 11], [4, 10], [5, 7], [6, 9], [8, 12]], [[1, 2], [3, 12], [4, 9], [5, 11], [6, 8], [7, 10]], [[1, 2], [3, 12], [4, 10], [5, 8], [6, 11], [7, 9]]]
theorem a2 : D_spec_l03Search 199 13 [[1, 2]] false 1073741824 = some A2 := by kernel_rfl
def A3 : List (List (List Int)) := [[[1, 3], [2, 5], [4, 11], [6, 10], [7, 12], [8, 9]], [[1, 3], [2, 6], [4, 11], [5, 8], [7, 12], [9, 10]], [[1, 3], [2, 6], [4, 11], [5, 10], [7, 8], [9, 12]], [[1, 3], [2, 6], [4, 12], [5, 11], [7, 10], [8, 9]], [[1, 3], [2, 7], [4, 8], [5, 12], [6, 9], [10, 11]], [[1, 3], [2, 9], [4, 5], [6, 10], [7, 12], [8, 11]], [[1, 3], [2, 9], [4, 5], [6, 11], [7, 10], [8, 12]], [[1, 3], [2, 10], [4, 8], [5, 11], [6, 7], [9, 12]], [[1, 3], [2, 11], [4, 7], [5, 10], [6, 12], [8, 9]], [[1, 3], [2, 12], [4, 9], [5, 11], [6, 10], [7, 8]], [[1, 3], [2, 12], [4, 10], [5, 9], [6, 11], [7, 8]]]
theorem a3 : D_spec_l03Search 199 13 [[1, 3]] false 1073741810 = some A3 := by kernel_rfl
def A4 : List (List (List Int)) := [[[1, 4], [2, 6], [3, 8], [5, 12], [7, 9], [10, 11]], [[1, 4], [2, 7], [3, 10], [5, 6], [8, 12], [9, 11]], [[1, 4], [2, 7], [3, 10], [5, 9], [6, 8], [11, 12]], [[1, 4], [2, 7], [3, 12], [5, 11], [6, 8], [9, 10]], [[1, 4], [2, 8], [3, 11], [5, 9], [6, 7], [10, 12]], [[1, 4], [2, 8], [3, 12], [5, 7], [6, 11], [9, 10]], [[1, 4], [2, 8], [3, 12], [5, 10], [6, 7], [9, 11]], [[1, 4], [2, 9], [3, 7], [5, 10], [6, 8], [11, 12]], [[1, 4], [2, 9], [3, 8], [5, 6], [7, 11], [10, 12]], [[1, 4], [2, 9], [3, 8], [5, 7], [6, 10], [11, 12]], [[1, 4], [2, 10], [3, 5], [6, 12], [7, 11], [8, 9]], [[1, 4], [2, 11], [3, 8], [5, 7], [6, 12], [9, 10]], [[1, 4], [2, 11], [3, 9], [5, 6], [7, 12], [8, 10]]]
theorem a4 : D_spec_l03Search 199 13 [[1, 4]] false 1073741799 = some A4 := by kernel_rfl
def A5 : List (List (List Int)) := [[[1, 5], [2, 3], [4, 11], [6, 9], [7, 12], [8, 10]], [[1, 5], [2, 4], [3, 10], [6, 11], [7, 8], [9, 12]], [[1, 5], [2, 4], [3, 11], [6, 12], [7, 10], [8, 9]], [[1, 5], [2, 7], [3, 6], [4, 11], [8, 9], [10, 12]], [[1, 5], [2, 8], [3, 6], [4, 12], [7, 9], [10, 11]], [[1, 5], [2, 9], [3, 8], [4, 6], [7, 10], [11, 12]], [[1, 5], [2, 10], [3, 4], [6, 12], [7, 9], [8, 11]], [[1, 5], [2, 10], [3, 9], [4, 7], [6, 8], [11, 12]], [[1, 5], [2, 12], [3, 8], [4, 10], [6, 7], [9, 11]]]
theorem a5 : D_spec_l03Search 199 13 [[1, 5]] false 1073741786 = some A5 := by kernel_rfl
def A6 : List (List (List Int)) := [[[1, 6], [2, 3], [4, 8], [5, 12], [7, 10], [9, 11]], [[1, 6], [2, 4], [3, 7], [5, 12], [8, 11], [9, 10]], [[1, 6], [2, 4], [3, 12], [5, 11], [7, 10], [8, 9]], [[1, 6], [2, 5], [3, 7], [4, 11], [8, 9], [10, 12]], [[1, 6], [2, 5], [3, 10], [4, 8], [7, 9], [11, 12]], [[1, 6], [2, 5], [3, 12], [4, 10], [7, 8], [9, 11]], [[1, 6], [2, 8], [3, 12], [4, 5], [7, 10], [9, 11]], [[1, 6], [2, 9], [3, 4], [5, 8], [7, 11], [10, 12]], [[1, 6], [2, 9], [3, 5], [4, 7], [8, 12], [10, 11]], [[1, 6], [2, 9], [3, 5], [4, 8], [7, 10], [11, 12]], [[1, 6], [2, 9], [3, 7], [4, 5], [8, 11], [10, 12]], [[1, 6], [2, 11], [3, 5], [4, 10], [7, 8], [9, 12]], [[1, 6], [2, 12], [3, 5], [4, 10], [7, 11], [8, 9]], [[1, 6], [2, 12], [3, 9], [4, 5], [7, 11], [8, 10]], [[1, 6], [2, 12], [3, 9], [4, 8], [5, 7], [10, 11]]]
theorem a6 : D_spec_l03Search 199 13 [[1, 6]] false 1073741777 = some A6 := by kernel_rfl
def A7 : List (List (List Int)) := [[[1, 7], [2, 3], [4, 12], [5, 8], [6, 10], [9, 11]], [[1, 7], [2, 4], [3, 12], [5, 8], [6, 11], [9, 10]], [[1, 7], [2, 5], [3, 11], [4, 6], [8, 12], [9, 10]], [[1, 7], [2, 5], [3, 12], [4, 9], [6, 8], [10, 11]], [[1, 7], [2, 6], [3, 5], [4, 12], [8, 11], [9, 10]], [[1, 7], [2, 6], [3, 11], [4, 5], [8, 10], [9, 12]], [[1, 7], [2, 10], [3, 5], [4, 8], [6, 9], [11, 12]], [[1, 7], [2, 10], [3, 6], [4, 5], [8, 12], [9, 11]], [[1, 7], [2, 11], [3, 4], [5, 10], [6, 8], [9, 12]], [[1, 7], [2, 11], [3, 8], [4, 5], [6, 9], [10, 12]], [[1, 7], [2, 12], [3, 4], [5, 9], [6, 11], [8, 10]], [[1, 7], [2, 12], [3, 5], [4, 8], [6, 11], [9, 10]], [[1, 7], [2, 12], [3, 8], [4, 5], [6, 10], [9, 11]], [[1, 7], [2, 12], [3, 8], [4, 6], [5, 9], [10, 11]]]
theorem a7 : D_spec_l03Search 199 13 [[1, 7]] false 1073741762 = some A7 := by kernel_rfl
def A8 : List (List (List Int)) := [[[1, 8], [2, 3], [4, 6], [5, 10], [7, 11], [9, 12]], [[1, 8], [2, 3], [4, 7], [5, 9], [6, 11], [10, 12]], [[1, 8], [2, 4], [3, 6], [5, 9], [7, 12], [10, 11]], [[1, 8], [2, 4], [3, 7], [5, 10], [6, 9], [11, 12]], [[1, 8], [2, 5], [3, 4], [6, 10], [7, 12], [9, 11]], [[1, 8], [2, 6], [3, 5], [4, 9], [7, 10], [11, 12]], [[1, 8], [2, 10], [3, 12], [4, 7], [5, 6], [9, 11]], [[1, 8], [2, 11], [3, 6], [4, 12], [5, 7], [9, 10]], [[1, 8], [2, 12], [3, 11], [4, 5], [6, 10], [7, 9]]]
theorem a8 : D_spec_l03Search 199 13 [[1, 8]] false 1073741748 = some A8 := by kernel_rfl
def A9 : List (List (List Int)) := [[[1, 9], [2, 3], [4, 6], [5, 11], [7, 10], [8, 12]], [[1, 9], [2, 4], [3, 7], [5, 8], [6, 12], [10, 11]], [[1, 9], [2, 5], [3, 4], [6, 12], [7, 11], [8, 10]], [[1, 9], [2, 5], [3, 7], [4, 10], [6, 8], [11, 12]], [[1, 9], [2, 5], [3, 12], [4, 11], [6, 7], [8, 10]], [[1, 9], [2, 8], [3, 5], [4, 7], [6, 10], [11, 12]], [[1, 9], [2, 8], [3, 6], [4, 5], [7, 11], [10, 12]], [[1, 9], [2, 11], [3, 4], [5, 12], [6, 8], [7, 10]], [[1, 9], [2, 12], [3, 5], [4, 11], [6, 10], [7, 8]], [[1, 9], [2, 12], [3, 7], [4, 11], [5, 6], [8, 10]], [[1, 9], [2, 12], [3, 10], [4, 5], [6, 8], [7, 11]]]
theorem a9 : D_spec_l03Search 199 13 [[1, 9]] false 1073741739 = some A9 := by kernel_rfl
def A10 : List (List (List Int)) := [[[1, 10], [2, 3], [4, 9], [5, 7], [6, 12], [8, 11]], [[1, 10], [2, 4], [3, 6], [5, 11], [7, 12], [8, 9]], [[1, 10], [2, 4], [3, 8], [5, 11], [6, 7], [9, 12]], [[1, 10], [2, 4], [3, 9], [5, 6], [7, 12], [8, 11]], [[1, 10], [2, 4], [3, 11], [5, 12], [6, 9], [7, 8]], [[1, 10], [2, 7], [3, 4], [5, 8], [6, 12], [9, 11]], [[1, 10], [2, 7], [3, 4], [5, 11], [6, 8], [9, 12]], [[1, 10], [2, 7], [3, 9], [4, 6], [5, 8], [11, 12]], [[1, 10], [2, 8], [3, 4], [5, 7], [6, 11], [9, 12]], [[1, 10], [2, 8], [3, 6], [4, 5], [7, 12], [9, 11]], [[1, 10], [2, 8], [3, 6], [4, 9], [5, 7], [11, 12]], [[1, 10], [2, 9], [3, 5], [4, 12], [6, 7], [8, 11]], [[1, 10], [2, 12], [3, 8], [4, 11], [5, 6], [7, 9]]]
theorem a10 : D_spec_l03Search 199 13 [[1, 10]] false 1073741728 = some A10 := by kernel_rfl
def A11 : List (List (List Int)) := [[[1, 11], [2, 3], [4, 8], [5, 10], [6, 12], [7, 9]], [[1, 11], [2, 3], [4, 10], [5, 9], [6, 8], [7, 12]], [[1, 11], [2, 4], [3, 7], [5, 10], [6, 12], [8, 9]], [[1, 11], [2, 4], [3, 9], [5, 10], [6, 7], [8, 12]], [[1, 11], [2, 6], [3, 5], [4, 10], [7, 12], [8, 9]], [[1, 11], [2, 6], [3, 9], [4, 5], [7, 12], [8, 10]], [[1, 11], [2, 6], [3, 10], [4, 12], [5, 7], [8, 9]], [[1, 11], [2, 7], [3, 4], [5, 9], [6, 12], [8, 10]], [[1, 11], [2, 7], [3, 5], [4, 8], [6, 12], [9, 10]], [[1, 11], [2, 7], [3, 9], [4, 8], [5, 6], [10, 12]], [[1, 11], [2, 8], [3, 7], [4, 9], [5, 6], [10, 12]], [[1, 11], [2, 9], [3, 5], [4, 12], [6, 10], [7, 8]], [[1, 11], [2, 9], [3, 7], [4, 12], [5, 6], [8, 10]], [[1, 11], [2, 9], [3, 12], [4, 6], [5, 10], [7, 8]], [[1, 11], [2, 10], [3, 7], [4, 6], [5, 12], [8, 9]]]
theorem a11 : D_spec_l03Search 199 13 [[1, 11]] false 1073741715 = some A11 := by kernel_rfl
def A12 : List (List (List Int)) := [[[1, 12], [2, 5], [3, 7], [4, 10], [6, 11], [8, 9]], [[1, 12], [2, 6], [3, 8], [4, 7], [5, 11], [9, 10]], [[1, 12], [2, 7], [3, 6], [4, 8], [5, 11], [9, 10]], [[1, 12], [2, 7], [3, 9], [4, 5], [6, 10], [8, 11]], [[1, 12], [2, 8], [3, 4], [5, 9], [6, 11], [7, 10]], [[1, 12], [2, 8], [3, 4], [5, 10], [6, 9], [7, 11]], [[1, 12], [2, 9], [3, 11], [4, 8], [5, 6], [7, 10]], [[1, 12], [2, 10], [3, 6], [4, 11], [5, 9], [7, 8]], [[1, 12], [2, 11], [3, 10], [4, 9], [5, 8], [6, 7]]]
theorem a12 : D_spec_l03Search 199 13 [[1, 12]] false 1073741700 = some A12 := by kernel_rfl
/-- the search behind a first pair, told -/
def told (m : Int) (p : List (List Int)) (s : Bool) (k : Int) : Option (List (List (List Int))) := if m = 13 ∧ s = false then (match p with
  | [[1, 2]] => if k = 1073741824 then some A2 else none
  | [[1, 3]] => if k = 1073741810 then some A3 else none
  | [[1, 4]] => if k = 1073741799 then some A4 else none
  | [[1, 5]] => if k = 1073741786 then some A5 else none
  | [[1, 6]] => if k = 1073741777 then some A6 else none
  | [[1, 7]] => if k = 1073741762 then some A7 else none
  | [[1, 8]] => if k = 1073741748 then some A8 else none
  | [[1, 9]] => if k = 1073741739 then some A9 else none
  | [[1, 10]] => if k = 1073741728 then some A10 else none
  | [[1, 11]] => if k = 1073741715 then some A11 else none
  | [[1, 12]] => if k = 1073741700 then some A12 else none
  | _ => none) else none
theorem told_ok : ∀ a b c d r, told a b c d = some r → D_spec_l03Search 199 a b c d = some r := by
  intro a b c d r h
  unfold told at h
  split at h
  · rename_i hc
    obtain ⟨rfl, rfl⟩ := hc
    split at h <;> first | cases h | skip
    · split at h
      · rename_i e; subst e; cases h; exact a2
      · cases h
    · split at h
      · rename_i e; subst e; cases h; exact a3
      · cases h
    · split at h
      · rename_i e; subst e; cases h; exact a4
      · cases h
    · split at h
      · rename_i e; subst e; cases h; exact a5
      · cases h
    · split at h
      · rename_i e; subst e; cases h; exact a6
      · cases h
    · split at h
      · rename_i e; subst e; cases h; exact a7
      · cases h
    · split at h
      · rename_i e; subst e; cases h; exact a8
      · cases h
    · split at h
      · rename_i e; subst e; cases h; exact a9
      · cases h
    · split at h
      · rename_i e; subst e; cases h; exact a10
      · cases h
    · split at h
      · rename_i e; subst e; cases h; exact a11
      · cases h
    · split at h
      · rename_i e; subst e; cases h; exact a12
      · cases h
  · cases h
def L13 : List (List (List Int)) := A2 ++ A3 ++ A4 ++ A5 ++ A6 ++ A7 ++ A8 ++ A9 ++ A10 ++ A11 ++ A12
def Z13 : List Bool := List.replicate 13 false
theorem t13 : Am.loopF (D_spec_l03Search_s2 told 199 13 [] false 1073741824 Z13 Z13 Z13 1) 199 ([], 2) = some L13 := by kernel_rfl
theorem u13 : Am.loopF (D_spec_l03Search_s2 (D_spec_l03Search 199) 199 13 [] false 1073741824 Z13 Z13 Z13 1) 199 ([], 2) = some L13 := loop_mono (search_mono told_ok 199 13 [] false 1073741824 Z13 Z13 Z13 1) t13
theorem v13 : Am.loopF (D_spec_l03Search_s0 199 13 []) 199 (Z13, Z13, Z13, 0) = some (Z13, Z13, Z13) := by kernel_rfl
theorem w13 : Am.loopF (D_spec_l03Search_s1 199 13 Z13) 199 1 = some 1 := by kernel_rfl
theorem s13 : D_spec_l03Search 200 13 [] false 1073741824 = some L13 := by
  rw [D_spec_l03Search]
  rw [chk_t (by decide), chk_t (by decide), show (decide ((([] : List (List Int)).length : Int) = (13 - 1 : Int).tdiv 2)) = false from rfl, cond_false, chk_t (by decide), chk_t (by decide), chk_t (by decide)]
  rw [show (List.replicate (13 : Int).toNat false) = Z13 from rfl, v13, Option.bind_some]
  dsimp only
  rw [w13, Option.bind_some, chk_t (by decide), show (1 + 1 : Int) = 2 from rfl, u13]
  rfl
theorem spec13 : D_spec_CountStarters 200 13 = some (133, 8, 8, 0) := by
  unfold D_spec_CountStarters
  rw [show D_spec_l03Modulus 200 13 = some true from rfl, s13]
  kernel_rfl
theorem impl13 : D_impl_CountStarters 200 13 = some (133, 8, 8, 0) := by kernel_rfl
theorem cs13 : D_laws_FnExactCountStarters 200 13 = some true := by
  unfold D_laws_FnExactCountStarters
  rw [spec13, impl13]
  rfl
theorem countStarters_law (a : Int) : D_laws_FnExactCountStarters 200 a = some true := by
  by_cases h : 3 ≤ a ∧ a ≤ 13 ∧ a.tmod 2 = 1
  · rcases six h with rfl | rfl | rfl | rfl | rfl | rfl
    · kernel_rfl
    · kernel_rfl
    · kernel_rfl
    · kernel_rfl
    · kernel_rfl
    · exact cs13
  · unfold D_laws_FnExactCountStarters D_spec_CountStarters D_impl_CountStarters
    rw [modS h, modI h]
    rfl
end Go.Proofs.Ytdafmafigcljkaa

