/-
  strconv.FormatInt (at numbers of one or two digits) and strings.Join, as the abstract machine calls them. No condition.
-/
import Derived.Test.YtfiilgnebmidbaaDoorAst
import Derived.Test.YtfiilgnebmidbaaDoorDStr
import Derived.Test.YtfiilgnebmidbaaDoorSh
namespace Go.Proofs.YtfiilgnebmidbaaDoor
open Go Go.RowKit Am
set_option linter.unusedVariables false
set_option linter.unusedSimpArgs false

theorem two_args {φ : Phi} {u v : Value} {args' : Array Value} (h : VA φ [u, v] args') : ∃ u' v', args' = #[u', v'] ∧ V φ u u' ∧ V φ v v' := by
  have hsz : args'.size = 2 := h.size
  obtain ⟨u0, h0⟩ : ∃ u, args'[0]? = some u := ⟨_, Array.getElem?_eq_getElem (by omega)⟩
  obtain ⟨u1, h1⟩ : ∃ u, args'[1]? = some u := ⟨_, Array.getElem?_eq_getElem (by omega)⟩
  refine ⟨u0, u1, ?_, h.get 0 _ _ rfl h0, h.get 1 _ _ rfl h1⟩
  apply Array.ext_getElem?
  intro j
  match j with
  | 0 => rw [h0]; rfl
  | 1 => rw [h1]; rfl
  | j + 2 => rw [Array.getElem?_eq_none (by omega), Array.getElem?_eq_none (by simp)]
theorem W_strconv_FormatInt (fu : Nat) (H : AHeap) (a0 : Int) (a1 : Int) (r0 : ByteArray) (hd : D_strconv_FormatInt fu a0 a1 = some r0) : ACall Tryd.prog 87 [.int .i64 a0, .int .i64 a1] H (.string r0) H := by
  obtain ⟨hx, hd⟩ := chk_some hd
  obtain rfl := some_inj hd
  obtain ⟨h1, h2, rfl⟩ := hx
  refine pure_call (.string _) fun W φ w args' hs hva => ?_
  obtain ⟨u, v, rfl, hu, hv⟩ := two_args hva
  cases hu; cases hv
  have := Tryd.strconv_FormatInt_10_small a0.toNat (by omega) w
  rw [Int.toNat_of_nonneg h1] at this
  exact this.mono fun e w' ⟨h3, h4⟩ => ⟨h3, by rw [h4]; exact Below.refl _ _⟩
theorem W_strings_Join (fu : Nat) (H : AHeap) (p_a0 : Option Addr) (c_a0 : Nat) (a0 : List ByteArray) (v_a0 : Vw H p_a0 a0.length c_a0 (sts a0)) (a1 : ByteArray) (r0 : ByteArray) (hd : D_strings_Join fu a0 a1 = some r0) : ACall Tryd.prog 66 [.slice p_a0 a0.length c_a0, .string a1] H (.string r0) H := by
  obtain ⟨⟨h1, h2⟩, hd⟩ := chk_some hd
  obtain rfl := some_inj hd
  refine pure_call (.string _) fun W φ w args' hs hva => ?_
  obtain ⟨u, v, rfl, hu, hv⟩ := two_args hva
  cases hv
  by_cases h0 : a0 = []
  · subst h0
    obtain ⟨a, cap, rfl⟩ : ∃ a cap, u = .slice a 0 cap := by
      cases hu with
      | nilSlice => exact ⟨_, _, rfl⟩
      | slice => exact ⟨_, _, rfl⟩
      | empty => exact ⟨_, _, rfl⟩
    exact (Tryd.strings_Join_none a cap a1 w).mono fun e w' ⟨h3, h4⟩ => ⟨h3, by rw [h4]; exact Below.refl _ _⟩
  · have hpos : 0 < a0.length := List.length_pos_iff.2 h0
    have hne : sts a0 ≠ [] := fun e => h0 (List.eq_nil_of_length_eq_zero (by rw [← sts_length a0, e]; rfl))
    have hp := v_a0.at_ hne
    generalize hb : blk p_a0 = b at hp
    generalize ho : off p_a0 = o at hp
    subst hp
    obtain ⟨L, c', hL, rfl, _, _, hnc⟩ := hu.inv_slice (.inl (by omega))
    have hcells : ∀ (j : Nat) x, a0[j]? = some x → w.cell? ⟨L.block, L.off + o + j, none⟩ = some (.string x) := fun j x hj => by
      have e : (sts a0)[j]? = some (.string x) := by unfold sts; rw [List.getElem?_map, hj]; rfl
      obtain ⟨c, g1, g2⟩ := cell_ok hs hL (v_a0.get j _ e)
      cases g2
      rw [show L.off + o + j = L.off + (o + j) by omega]; exact g1
    have hbk : L.block < w.heap.size := by
      obtain ⟨x, hx⟩ : ∃ x, a0[0]? = some x := ⟨_, List.getElem?_eq_getElem hpos⟩
      exact World.block_lt_of_cell? _ _ (hcells 0 x hx)
    exact Tryd.strings_Join L.block (L.off + o) c' a0 a1 w hcells hbk h1 hnc h2
end Go.Proofs.YtfiilgnebmidbaaDoor
