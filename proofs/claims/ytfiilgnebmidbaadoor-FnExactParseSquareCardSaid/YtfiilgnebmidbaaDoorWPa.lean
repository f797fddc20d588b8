/-
  strings.Cut, strings.Split and the reading of a number, as the abstract machine calls them. No condition.
-/
import Derived.Lib.SplitLaws
import Derived.Lib.AppendIntMem
import Derived.Lib.ParseIntBTie
import Derived.Test.YtfiilgnebmidbaaDoorAst
import Derived.Test.YtfiilgnebmidbaaDoorDPa
import Derived.Test.YtfiilgnebmidbaaDoorSh
import Derived.Test.YtfiilgnebmidbaaDoorWStr
namespace Go.Proofs.YtfiilgnebmidbaaDoor
open Go Go.RowKit Go.Lib Go.Sort Am
set_option linter.unusedVariables false
set_option linter.unusedSimpArgs false

theorem based_cell {W w : World} (h : Based W w) {a : Addr} {v : Value} (e : W.cell? a = some v) : w.cell? a = some v := (h.below.cell (World.block_lt_of_cell? _ _ e)).trans e
theorem drewN_below (w : World) (n : Nat) : Below w.heap.size w (w.drewN n) := by
  induction n with
  | zero => exact Below.refl _ _
  | succ n ih => exact ⟨rfl, rfl, rfl, Nat.le_refl _, fun k hk => rfl⟩
theorem W_strings_Cut (fu : Nat) (H : AHeap) (a0 : ByteArray) (a1 : ByteArray) (r0 : ByteArray) (r1 : ByteArray) (r2 : Bool) (hd : D_strings_Cut fu a0 a1 = some (r0, r1, r2)) : ACall Tryd.prog 43 [.string a0, .string a1] H (.tuple #[.string r0, .string r1, .bool r2]) H := by
  obtain ⟨hx, hd⟩ := chk_some hd
  obtain ⟨rfl, h2⟩ := Prod.mk.inj (some_inj hd)
  obtain ⟨rfl, rfl⟩ := Prod.mk.inj h2
  refine pure_call (flat_t3 (.string _) (.string _) (.bool _)) fun W φ w args' hs hva => ?_
  obtain ⟨u, v, rfl, hu, hv⟩ := two_args hva
  cases hu; cases hv
  obtain ⟨m, hm⟩ := hs.base.ok.1
  exact (Tryd.strings_Cut a0 a1 m w hx (based_cell hs.base hm)).mono fun e w' ⟨h3, n, h4⟩ => ⟨h3, by rw [h4]; exact drewN_below w n⟩
theorem W_strings_Split (fu : Nat) (H : AHeap) (a0 : ByteArray) (a1 : ByteArray) (r0 : List ByteArray) (hd : D_strings_Split fu a0 a1 = some r0) :
    ∃ v G', ACall Tryd.prog 45 [.string a0, .string a1] H v G' ∧ ∃ (p_r0 : Option Addr) (c_r0 : Nat), (v = .slice p_r0 r0.length c_r0) ∧ St [] H G' [oseg p_r0 (sts r0)] ∧ Sb p_r0 r0.length c_r0 1 := by
  obtain ⟨⟨h1, h2⟩, hd⟩ := chk_some hd
  obtain rfl := some_inj hd
  have hlen := splitB_all a1 h2 0 (countB a0 a1) a0 rfl
  generalize hss : splitB a1 0 (countB a0 a1) a0 = ss at hlen
  obtain ⟨G', i, hi, hG, S⟩ := (St.nil H).new (.row false (sts ss))
  refine ⟨.slice (some ⟨i, 0, none⟩) ss.length (capU + 1), G', ?_, some ⟨i, 0, none⟩, capU + 1, rfl, S, .inr ⟨i, rfl, .inl rfl⟩⟩
  intro W φ w args' hs hva
  obtain ⟨u, v, rfl, hu, hv⟩ := two_args hva
  cases hu; cases hv
  obtain ⟨m, hm⟩ := hs.base.ok.1
  have hc := Tryd.strings_Split a0 a1 m w h1 (based_cell hs.base hm) h2
  rw [← hlen, ← hss] at hc
  refine hc.mono ?_
  rintro e w' ⟨rfl, rfl⟩
  rw [hss]
  have hsz : ((ss.map Value.string).toArray).size = ss.length := by simp
  have hgb : (w.alloc (.cells (ss.map Value.string).toArray 9)).heap[w.heap.size]? = some (.cells (ss.map Value.string).toArray 9) := by
    show (w.heap.push _)[w.heap.size]? = _
    rw [Array.getElem?_push, if_pos rfl]
  have hb : Below w.heap.size w (w.alloc (.cells (ss.map Value.string).toArray 9)) := by
    refine ⟨rfl, rfl, rfl, ?_, fun k hk => ?_⟩
    · show w.heap.size ≤ (w.heap.push _).size
      rw [Array.size_push]; omega
    · show (w.heap.push _)[k]? = _
      rw [Array.getElem?_push, if_neg (by omega)]
  obtain ⟨φ', h1', h2', h3'⟩ := grown_ok hs hb (g := w.heap.size) (Nat.le_refl _) (by show w.heap.size < (w.heap.push _).size; rw [Array.size_push]; omega) (sts ss) (ext := ss.length) (by rw [sts_length]; omega)
    (fun j c h => by
      obtain ⟨x, hx, rfl⟩ : ∃ x, ss[j]? = some x ∧ c = .string x := by
        unfold sts at h; rw [List.getElem?_map] at h
        cases hj : ss[j]? with
        | none => rw [hj] at h; cases h
        | some x => rw [hj] at h; cases h; exact ⟨x, rfl, rfl⟩
      exact ⟨.string x, by unfold World.cell?; rw [hgb]; simp [hx], .string _⟩)
    (fun j hj => ⟨⟨.string ss[j], by unfold World.cell?; rw [hgb]; simp [hj]⟩, by unfold World.frozen?; rw [hgb]; simp⟩)
  rw [← hG, ← hi]
  refine ⟨_, φ', rfl, h1', ?_, h2'⟩
  have hu : ∀ m, capU + 1 = capU + m → 0 + ss.length * m ≤ (Loc.mk w.heap.size 0 ss.length).ext := by
    intro m hm
    obtain rfl : m = 1 := by omega
    show 0 + ss.length * 1 ≤ ss.length
    omega
  have := V.slice (φ := φ') H.length 0 ss.length (capU + 1) ⟨w.heap.size, 0, ss.length⟩ ss.length h3' (fun h => absurd h (by omega)) hu (Nat.le_refl _)
  simpa using this
theorem based_tab {W w : World} (h : Based W w) : TabIs Tryd.prog w "internal/strconv.uint64pow10" .u64 pow10Tab := tabBelow_of_tabIs h.ok.2.2.2 w h.below
theorem dg_below (w : World) (k : Nat) (os : Array Obj) : Below w.heap.size w (grow (w.drewN k) os) := (drewN_below w k).trans (grow_below (w.drewN k) os)
set_option maxHeartbeats 2000000 in
set_option maxRecDepth 100000 in
theorem decimal_world (v : Int) (h0 : -9223372036854775808 ≤ v) (h1 : v ≤ 9223372036854775807) (w : World) (htab : TabIs Tryd.prog w "internal/strconv.uint64pow10" .u64 pow10Tab) :
    Calls Tryd.prog 65 #[.int .i64 v] w fun e w' => e = .returned (.string ⟨(itoa v).toArray⟩) ∧ Below w.heap.size w w' := by
  go_enter Tryd.func65, Tryd.ntmps65
  go_wp2_with (go_at_call 87; refine (Tryd.strconv_FormatInt_10 v h0 h1 w htab).mono ?_; rintro e W1 ⟨rfl, k, os, rfl⟩)
  go_ret
  exact ⟨rfl, dg_below w k os⟩
set_option maxHeartbeats 4000000 in
set_option maxRecDepth 100000 in
theorem readNumber_world (s : ByteArray) (hlim : s.size ≤ 281474976710656) (e1 e2 : Value) (w : World) (hv1 : w.cell? ⟨1, 0, none⟩ = some e1) (he1 : ErrV e1) (hv2 : w.cell? ⟨2, 0, none⟩ = some e2) (he2 : ErrV e2) (htab : ∀ w', Below w.heap.size w w' → TabIs Tryd.prog w' "internal/strconv.uint64pow10" .u64 pow10Tab) :
    Calls Tryd.prog 44 #[.string s] w fun e w' => e = .returned (.int .i64 (rdNum s)) ∧ Below w.heap.size w w' := by
  unfold rdNum
  cases hp : parseIntB 64 s.data.toList with
  | ok v =>
    have hb := parseIntB_bounds hp
    have hc : Calls Tryd.prog 74 #[.string s, .int .i64 10, .int .i64 64] w fun e w' => e = .returned (.tuple #[.int .i64 v, .nilIface]) ∧ Below w.heap.size w w' :=
      (Tryd.strconv_ParseInt_10_at64_ok s (by omega) v hp w).mono fun e w' ⟨h1, h2⟩ => ⟨h1, by
        rcases h2 with rfl | ⟨t, rfl⟩
        · exact Below.refl _ _
        · exact bytesWorld_below _ _ _⟩
    have h63 : ((2 ^ (64 - 1) : Nat) : Int) = 9223372036854775808 := rfl
    rw [h63] at hb
    have hd : ∀ W1, Below w.heap.size w W1 → Calls Tryd.prog 65 #[.int .i64 v] W1 fun e w' => e = .returned (.string ⟨(itoa v).toArray⟩) ∧ Below W1.heap.size W1 w' := fun W1 hb1 => decimal_world v hb.1 (by omega) W1 (htab W1 hb1)
    go_enter Tryd.func44, Tryd.ntmps44
    go_wp2_with (first | (go_at_call 74; refine hc.mono ?_; rintro e W1 ⟨rfl, hb1⟩) | (go_at_call 65; refine (hd _ (by assumption)).mono ?_; rintro e W2 ⟨rfl, hb2⟩))
    all_goals go_ret
    all_goals first | exact ⟨rfl, hb1.trans (hb2.mono hb1.size)⟩ | (exfalso; simp_all [ByteArray.toList_eq])
  | range =>
    have hc : Calls Tryd.prog 74 #[.string s, .int .i64 10, .int .i64 64] w fun e w' => (∃ z N t, e = .returned (.tuple #[.int .i64 z, .iface t (.pointer (some ⟨N, 0, none⟩))])) ∧ Below w.heap.size w w' :=
      (Tryd.strconv_ParseInt_10_at64_range s hlim hp e2 w hv2 he2).mono fun e w' ⟨N, h1, _, _, h4⟩ => ⟨⟨_, N, _, h1⟩, h4⟩
    go_enter Tryd.func44, Tryd.ntmps44
    go_wp2_with (go_at_call 74; refine hc.mono ?_; rintro e W1 ⟨⟨z, N, t, rfl⟩, hb1⟩)
    all_goals go_ret
    all_goals exact ⟨rfl, hb1⟩
  | _ =>
    have hc : Calls Tryd.prog 74 #[.string s, .int .i64 10, .int .i64 64] w fun e w' => (∃ N t, e = .returned (.tuple #[.int .i64 0, .iface t (.pointer (some ⟨N, 0, none⟩))])) ∧ Below w.heap.size w w' :=
      (Tryd.strconv_ParseInt_10_at64_syntax s hlim (fun v e => by rw [hp] at e; cases e) (fun e => by rw [hp] at e; cases e) e1 w hv1 he1).mono fun e w' ⟨N, h1, _, _, h4⟩ => ⟨⟨N, _, h1⟩, h4⟩
    go_enter Tryd.func44, Tryd.ntmps44
    go_wp2_with (go_at_call 74; refine hc.mono ?_; rintro e W1 ⟨⟨N, t, rfl⟩, hb1⟩)
    all_goals go_ret
    all_goals exact ⟨rfl, hb1⟩
theorem one_arg {φ : Phi} {u : Value} {args' : Array Value} (h : VA φ [u] args') : ∃ u', args' = #[u'] ∧ V φ u u' := by
  have hsz : args'.size = 1 := h.size
  obtain ⟨u0, h0⟩ : ∃ u, args'[0]? = some u := ⟨_, Array.getElem?_eq_getElem (by omega)⟩
  refine ⟨u0, ?_, h.get 0 _ _ rfl h0⟩
  apply Array.ext_getElem?
  intro j
  match j with
  | 0 => rw [h0]; rfl
  | j + 1 => rw [Array.getElem?_eq_none (by omega), Array.getElem?_eq_none (by simp)]
theorem W_impl_readNumber (fu : Nat) (H : AHeap) (a0 : ByteArray) (r0 : Int) (hd : D_impl_readNumber fu a0 = some r0) : ACall Tryd.prog 44 [.string a0] H (.int .i64 r0) H := by
  obtain ⟨hx, hd⟩ := chk_some hd
  obtain rfl := some_inj hd
  refine pure_call (.int _ _) fun W φ w args' hs hva => ?_
  obtain ⟨u, rfl, hu⟩ := one_arg hva
  cases hu
  obtain ⟨_, ⟨e1, h1, he1⟩, ⟨e2, h2, he2⟩, ht⟩ := hs.base.ok
  exact readNumber_world a0 hx e1 e2 w (based_cell hs.base h1) he1 (based_cell hs.base h2) he2 (fun w' hb => tabBelow_of_tabIs ht w' (hs.base.below.trans (hb.mono hs.base.size)))
end Go.Proofs.YtfiilgnebmidbaaDoor
