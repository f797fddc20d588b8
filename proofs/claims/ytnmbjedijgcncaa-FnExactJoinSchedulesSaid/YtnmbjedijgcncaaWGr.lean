/-
  slices.Grow of nil, at this program. No condition.
-/
import Derived.WalkKit
import Derived.Lib.Walk
import Derived.Lib.SliceRun
import Derived.Lib.AppendZerosOnto
import Derived.Shelf.RegionOpenPlain
import Derived.Test.YtnmbjedijgcncaaK5
import Derived.Test.YtnmbjedijgcncaaDGr
import Derived.Test.YtnmbjedijgcncaaProg
namespace Go.Proofs.Ytnmbjedijgcncaa
open Go Go.RowKit Go.Lib Am
set_option linter.unusedVariables false
set_option linter.unusedSimpArgs false

set_option maxHeartbeats 4000000 in
set_option maxRecDepth 100000 in
theorem grow_zero (w : World) : Calls Try.prog 146 #[.slice none 0 0, .int .i64 0] w fun e w' => e = .returned (.slice none 0 0) ∧ w' = w := by
  go_enter Try.func146, Try.ntmps146
  go_wp2
  go_ret
  exact ⟨rfl, rfl⟩
set_option maxHeartbeats 4000000 in
set_option maxRecDepth 100000 in
theorem grow_some (n : Nat) (w : World) (h0 : 0 < n) (hb : n ≤ 4294967296) :
    Calls Try.prog 146 #[.slice none 0 0, .int .i64 n] w fun e w' => ∃ C cells, e = .returned (.slice (some ⟨w.heap.size, 0, none⟩) 0 C) ∧ w' = w.drew.alloc (.cells cells 26) ∧ C * 14 ≤ cells.size := by
  have h1 : ¬ ((n : Int) < 0) := by omega
  have h4 : (n : Int) > 0 := by omega
  have hi0 : Try.prog.info? 26 = some Try.t26 := Try.type26
  have hs14 : Try.t26.size = 14 := rfl
  have hb112 : Try.t26.bytes = 112 := rfl
  obtain ⟨z, hz, hzc⟩ : ∃ z, Try.t26.zero = some z ∧ z.cells.size = 14 := ⟨_, rfl, rfl⟩
  have hold : (Builtin.firstCells Try.t26.size 0 (.slice none 0 0)).run Try.prog w.drew = .ok ([] : List Value).toArray w.drew := run_firstCells_none w.drew _ 0 0 0
  have hrz : ∀ ty, (Builtin.append_ #[41, 3] ty #[.slice none 0 0, .int .i64 (n : Int)]).run Try.prog w =
      .ok (.slice (some ⟨w.heap.size, 0, none⟩) n (grownCap w n 0 26)) (w.drew.alloc (.cells (([] : List Value).toArray ++ Builtin.zeroCells z.cells n ++ Builtin.zeroCells z.cells (grownCap w n 0 26 - n)) 26)) := fun ty => by
    have h := Lib.run_append_grow_zeros w 41 3 ty 26 Try.t26 z .i64 .i64 Try.underlying41 Try.underlying3 hi0 hz none 0 0 [] hold n h0 (by rw [hs14]; omega) (by omega) (by omega)
      (by rw [hb112]; omega) (by rw [Nat.zero_add, hb112]; exact growslice_fits (by omega) (by omega))
    rw [Nat.zero_add] at h
    exact h
  obtain ⟨C, hC⟩ : ∃ C, C = grownCap w n 0 26 := ⟨_, rfl⟩
  have hGn : n ≤ grownCap w n 0 26 := grownCap_ge w _ _ _
  have hG63 : C ≤ 9223372036854775807 := by
    have := grownCap_le_maxLen w n 0 26 (by unfold maxLen; omega)
    rw [← hC] at this
    unfold maxLen at this
    omega
  rw [← hC] at hrz hGn
  have hsz : (([] : List Value).toArray ++ Builtin.zeroCells z.cells n ++ Builtin.zeroCells z.cells (C - n)).size = C * 14 := by
    simp [Builtin.zeroCells, hzc]
    rw [← Nat.add_mul]; congr 1; omega
  generalize hcs : (([] : List Value).toArray ++ Builtin.zeroCells z.cells n ++ Builtin.zeroCells z.cells (C - n)) = cells at hrz hsz
  clear hold hC hcs
  have h2 : wrap64 ((n : Int) - 0) = (n : Int) := by unfold wrap64; omega
  have h2b : wrap64 ((n : Int)) = (n : Int) := by unfold wrap64; omega
  go_enter Try.func146, Try.ntmps146
  go_wp2_with (at_builtin; refine Lib.wpList_append_run _ rfl _ _ _ _ rfl _ _ rfl rfl _ _ (hrz _) ?_)
  all_goals (go_ret; exact ⟨C, rfl, cells, rfl, by omega⟩)
theorem alloc_heap (w : World) (o : Obj) : (w.drew.alloc o).heap = w.heap.push o := rfl
theorem below_alloc (w : World) (o : Obj) : Below w.heap.size w (w.drew.alloc o) := by
  refine ⟨rfl, rfl, rfl, by rw [alloc_heap, Array.size_push]; omega, fun k hk => ?_⟩
  rw [alloc_heap, Array.getElem?_push, if_neg (by omega)]
theorem W_slices_Grow_Simpl_Round_impl_Round (fu : Nat) (H : AHeap) (a1 : Int) (r0 : List (List Int)) (hd : D_slices_Grow_Simpl_Round_impl_Round fu a1 = some r0) :
    ∃ v G', ACall Try.prog 146 [.slice none 0 0, .int .i64 a1] H v G' ∧ ∃ (p_r0 : Option Addr) (c_r0 : Nat), (v = .slice p_r0 r0.length c_r0) ∧ St [] H G' [oseg p_r0 (ints r0.flatten)] ∧ Sb p_r0 r0.length c_r0 14 ∧ All 14 r0 := by
  obtain ⟨hx, hd⟩ := chk_some hd
  obtain rfl := some_inj hd
  obtain ⟨n, rfl⟩ : ∃ n : Nat, a1 = n := ⟨a1.toNat, by omega⟩
  have argsEq : ∀ {φ : Phi} {args' : Array Value}, VA φ [.slice none 0 0, .int .i64 (n : Int)] args' → args' = #[.slice none 0 0, .int .i64 (n : Int)] := by
    intro φ args' hva
    have hsz := hva.size
    have hsz2 : args'.size = 2 := hsz
    obtain ⟨u0, h0⟩ : ∃ u, args'[0]? = some u := ⟨_, Array.getElem?_eq_getElem (by omega)⟩
    obtain ⟨u1, h1⟩ : ∃ u, args'[1]? = some u := ⟨_, Array.getElem?_eq_getElem (by omega)⟩
    have hv0 := hva.get 0 _ _ rfl h0
    have hv1 := hva.get 1 _ _ rfl h1
    obtain ⟨_, _, rfl⟩ := hv0.inv_nilSlice
    cases hv1
    apply Array.ext_getElem?
    intro j
    match j with
    | 0 => rw [h0]; rfl
    | 1 => rw [h1]; rfl
    | j + 2 => rw [Array.getElem?_eq_none (by omega), Array.getElem?_eq_none (by simp)]
  by_cases hn : n = 0
  · subst hn
    refine ⟨.slice none 0 0, H, ?_, none, 0, rfl, (St.nil H).nilseg 0, Sb.nil, all_nil⟩
    intro W φ w args' hs hva
    rw [argsEq hva]
    refine (grow_zero w).mono ?_
    rintro e w' ⟨rfl, rfl⟩
    exact ⟨_, φ, rfl, hs, .nilSlice, Step.refl _ _ _⟩
  · obtain ⟨G', i, hi, hG, S⟩ := (St.nil H).new (.row false (ints ([] : List (List Int)).flatten))
    refine ⟨.slice (some ⟨i, 0, none⟩) 0 (capU + 14), G', ?_, some ⟨i, 0, none⟩, capU + 14, rfl, S, .inr ⟨i, rfl, .inl rfl⟩, all_nil⟩
    intro W φ w args' hs hva
    rw [argsEq hva]
    refine (grow_some n w (by omega) (by omega)).mono ?_
    rintro e w' ⟨C, cells, rfl, rfl, hc⟩
    have hgb : (w.drew.alloc (.cells cells 26)).heap[w.heap.size]? = some (.cells cells 26) := by rw [alloc_heap, Array.getElem?_push, if_pos rfl]
    obtain ⟨φ', h1, h2, h3⟩ := grown_ok hs (below_alloc w (.cells cells 26)) (g := w.heap.size) (Nat.le_refl _) (by rw [alloc_heap, Array.size_push]; omega) ([] : List Value) (ext := cells.size) (by simp)
      (fun j c h => by simp at h) (fun j hj => ⟨⟨cells[j], by unfold World.cell?; rw [hgb]; simp [hj]⟩, by unfold World.frozen?; rw [hgb]; simp⟩)
    rw [← hG, ← hi]
    refine ⟨_, φ', rfl, h1, ?_, h2⟩
    have hu : ∀ m, capU + 14 = capU + m → 0 + C * m ≤ (Loc.mk w.heap.size 0 cells.size).ext := by
      intro m hm
      obtain rfl : m = 14 := by omega
      show 0 + C * 14 ≤ cells.size
      omega
    have := V.slice (φ := φ') H.length 0 0 (capU + 14) ⟨w.heap.size, 0, cells.size⟩ C h3 (fun h => absurd h (by omega)) hu (Nat.zero_le _)
    simpa using this
end Go.Proofs.Ytnmbjedijgcncaa
