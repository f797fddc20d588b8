
/-
  slices.Sorted of a slice's values and slices.Compact, as the abstract machine calls them. No condition.
-/
import Derived.Test.YtdafmafigcljkaaGreatSv
import Derived.Test.YtdafmafigcljkaaGreatSh
import Derived.Test.YtdafmafigcljkaaGreatK5
import Derived.Test.YtdafmafigcljkaaGreatDSo
import Derived.Sort.OwnSortedInts
namespace Go.Proofs.YtdafmafigcljkaaGreat
open Go Go.RowKit Go.Shelf Go.Sort Am
set_option linter.unusedVariables false
set_option linter.unusedSimpArgs false
set_option maxRecDepth 100000 in
set_option maxHeartbeats 2000000 in
theorem sorted_in (F : Fence) (n : Nat) (g1 : F.fn 74) (g2 : F.fn 90) (g3 : F.fn 106) (g4 : F.fn 92) (g5 : F.fn 91) (hro : F.round = none) (hn : 5 ≤ n)
    (hs1 : ∀ (blk off cap : Nat) (zs : List Int) (w : World), Holds (Value.int .i64) w blk off zs.toArray → blk < w.heap.size → zs.length < 4611686018427387904 → CallsIn F (n - 1) Tryz.prog 91 #[.slice (some ⟨blk, off, none⟩) zs.length cap] w fun e w' =>
      e = .returned (.tuple #[]) ∧ ∃ n os, w' = grow (putRow (Value.int .i64) (Sort.ahead w n) blk off (zs.mergeSort fun x y => decide (x ≤ y)).toArray) os)
    (hs2 : ∀ (p : Option Addr) (cap : Nat) (w : World), CallsIn F (n - 1) Tryz.prog 91 #[.slice p 0 cap] w fun e w' => e = .returned (.tuple #[]) ∧ w' = w) (Bs Bo : Nat) (sv : Value) (zs : List Int) (hz : zs.length ≤ 4294967296) (w : World) (hBs : Bs < w.heap.size)
    (hc0 : w.cell? ⟨Bs, Bo, none⟩ = some sv) (hI0 : SvInts w.heap.size w sv zs) :
    CallsIn F n Tryz.prog 74 #[.func (.func 92) #[] #[.pointer (some ⟨Bs, Bo, none⟩)]] w fun e W' => ∃ v, e = .returned v ∧ W'.ownsRow w.heap.size 2 1 v (zs.mergeSort fun x y => decide (x ≤ y)).length ((zs.mergeSort fun x y => decide (x ≤ y)).map (Value.int .i64)) ∧ (v = .slice none 0 0 ↔ (zs.mergeSort fun x y => decide (x ≤ y)) = []) ∧ Below w.heap.size w W' := by
  have hmax : zs.length ≤ maxLen := by simp only [maxLen]; omega
  have hml : (zs.mergeSort fun x y => decide (x ≤ y)).length = zs.length := List.length_mergeSort ..
  have h1 : 1 ≤ n := by omega
  refine callsIn_of_wp Tryz.func74 rfl g1 ?_ hro
  simp only [Tryz.ntmps74, List.size_toArray, List.length_cons, List.length_nil, Nat.reduceAdd, Nat.reduceSub, Array.replicate_succ, Array.replicate_zero, List.push_toArray, List.append_toArray, List.nil_append, List.cons_append]
  gi_wp2_with (gi_at_call 90; refine (collect_in F (n - 1) g2 g3 g4 hro (by omega) Bs Bo sv zs hmax (by omega) _ hBs hc0 hI0).mono ?_; rintro e W ⟨v, rfl, hrow, hnil, hb⟩)
  rcases hrow.2 with ⟨rfl, hz0⟩ | ⟨gb, cap, cur, rfl, hbase, hgb, r1, r2, r3, r4⟩
  · have hss : zs = [] := List.eq_nil_of_length_eq_zero hz0
    subst hss
    gi_wp2_with (gi_at_call 91; refine (hs2 none 0 W).mono ?_; rintro e w' ⟨rfl, rfl⟩)
    go_ret
    exact ⟨.slice none 0 0, rfl, by simpa using hrow, by simp, hb⟩
  · have hH : Holds (Value.int .i64) W gb 0 zs.toArray := holds_of_blockI hgb (by simpa using r4)
    have hgl : gb < W.heap.size := (Array.getElem?_eq_some_iff.1 hgb).1
    have cS := hs1 gb 0 cap zs W hH hgl (by omega)
    gi_wp2_with (gi_at_call 91; refine cS.mono ?_; rintro e w' ⟨rfl, nn, os, rfl⟩)
    go_ret
    refine ⟨_, rfl, ?_, ?_, hb.grown (grownBy_sortedI _) hb.size (fun j hj => by cases hj; exact hbase)⟩
    · rw [hml]; exact ownsRow_sortedI hml hbase hgb r1 r2 r3
    · have hne : zs ≠ [] := fun e => by have := hnil.2 e; cases this
      constructor
      · intro h; cases h
      · intro h; exact absurd (List.eq_nil_of_length_eq_zero (by rw [← hml, h]; rfl)) hne
theorem sv_of {W : World} {φ : Phi} {H : AHeap} {w : World} (hs : Sim W φ H w) {p : Option Addr} {c : Nat} {x : List Int} (v : Vw H p x.length c (ints x)) {v' : Value} (hv : V φ (.slice p x.length c) v') : SvInts w.heap.size w v' x := by
  by_cases hx : x = []
  · subst hx
    cases hv with
    | nilSlice => exact .inl ⟨_, _, rfl, rfl⟩
    | slice => exact .inl ⟨_, _, rfl, rfl⟩
    | empty => exact .inl ⟨_, _, rfl, rfl⟩
  · have hpos : 0 < x.length := List.length_pos_iff.2 hx
    have hne : ints x ≠ [] := fun e => hx (List.eq_nil_of_length_eq_zero (by rw [← ints_length x, e]; rfl))
    have hp := v.at_ hne
    have hv2 := hv
    rw [hp] at hv2
    obtain ⟨L, c', hL, rfl, _⟩ := hv2.inv_slice (.inl (by omega))
    have hread : ∀ j (hj : j < x.length), w.cell? ⟨L.block, L.off + off p + j, none⟩ = some (.int .i64 x[j]) := by
      intro j hj
      have e : (ints x)[j]? = some (.int .i64 x[j]) := by simp [ints, hj]
      obtain ⟨u, h1, h2⟩ := cell_ok hs hL (v.get j _ e)
      cases h2
      rw [show L.off + off p + j = L.off + (off p + j) by omega]; exact h1
    refine .inr ⟨L.block, L.off + off p, c', rfl, World.block_lt_of_cell? _ _ (hread 0 hpos), fun j hj => ?_⟩
    rw [hread j hj]; simp [hj]
theorem W_slices_Sorted_int64 (fu : Nat) (H : AHeap) (i : Nat) (ro : Bool) (p : Option Addr) (c : Nat) (x : List Int) (v : Vw H p x.length c (ints x)) (o : hget H i = .row ro [.slice p x.length c]) (r0 : List Int) (hd : D_slices_Sorted_int64 fu x = some r0) :
    ∃ v G', ACall Tryz.prog 74 [.func (.func 92) #[] #[.pointer (some ⟨i, 0, none⟩)]] H v G' ∧ ∃ (p_r0 : Option Addr) (c_r0 : Nat), (v = .slice p_r0 r0.length c_r0) ∧ St [] H G' [oseg p_r0 (ints r0)] ∧ Sb p_r0 r0.length c_r0 1 := by
  obtain ⟨hx, hd⟩ := chk_some hd
  rw [isort_eq] at hd
  obtain rfl := some_inj hd
  refine fresh_call (E := 2) _ ?_
  intro W φ w args' hs hva
  have hsz := hva.size
  obtain ⟨u0, h0⟩ : ∃ u, args'[0]? = some u := ⟨_, Array.getElem?_eq_getElem (by rw [hsz]; exact Nat.zero_lt_one)⟩
  have hv0 := hva.get 0 _ _ rfl h0
  obtain ⟨L, hL, he⟩ : ∃ L, φ i = some L ∧ u0 = .func (.func 92) #[] #[.pointer (some ⟨L.block, L.off + 0, none⟩)] := by
    cases hv0 with
    | func _ _ fs' _ cs' h1 h2 hf hc =>
      obtain rfl : fs' = #[] := Array.eq_empty_of_size_eq_zero h1.symm
      obtain ⟨q, h3⟩ : ∃ q, cs'[0]? = some q := ⟨_, Array.getElem?_eq_getElem (by rw [← h2]; exact Nat.zero_lt_one)⟩
      have h4 := hc 0 _ _ rfl h3
      cases h4 with
      | ptr _ _ L hL =>
        refine ⟨L, hL, ?_⟩
        congr 1
        apply Array.ext_getElem?
        intro j
        cases j with
        | zero => rw [h3]; rfl
        | succ j => rw [Array.getElem?_eq_none (by rw [← h2]; simp), Array.getElem?_eq_none (by simp)]
  have hargs : args' = #[.func (.func 92) #[] #[.pointer (some ⟨L.block, L.off + 0, none⟩)]] := by
    apply Array.ext_getElem?
    intro j
    cases j with
    | zero => rw [h0, he]; rfl
    | succ j => rw [Array.getElem?_eq_none (by rw [hsz]; simp), Array.getElem?_eq_none (by simp)]
  have hbox : hcell H i 0 = some (.slice p x.length c) := by unfold hcell; rw [o]; rfl
  obtain ⟨v', h1, h2⟩ := cell_ok hs hL hbox
  have hI := sv_of hs v h2
  rw [hargs]
  exact callsIn_wide.1 (sorted_in Fence.wide 6 trivial trivial trivial trivial trivial rfl (by omega) (fun blk off cap zs w a b c => callsIn_wide.2 (Tryz.slices_Sort_int blk off cap zs w a b c)) (fun p cap w => callsIn_wide.2 (Tryz.slices_Sort_int_none p cap w)) L.block (L.off + 0) v' x hx w (World.block_lt_of_cell? _ _ h1) h1 hI)
theorem compact_len (xs : List Int) : (Lib.compact xs).length ≤ xs.length := by
  unfold Lib.compact Lib.compactUpTo
  rw [List.length_map]
  have := List.length_filter_le (Lib.keeps xs.toArray) (List.range xs.length)
  rwa [List.length_range] at this
theorem W_slices_Compact_Sint64_int64 (fu : Nat) (H : AHeap) (p_a0 : Option Addr) (c_a0 : Nat) (a0 : List Int) (s_a0 : Sb p_a0 a0.length c_a0 1) (hn : ((oseg p_a0 (ints a0)).map (·.1)).Nodup) (ho : ∀ x ∈ oseg p_a0 (ints a0), x.1 < H.length ∧ hget H x.1 = x.2) (r0 : List Int) (m_a0 : List Int) (hd : D_slices_Compact_Sint64_int64 fu a0 = some (r0, m_a0)) :
    ∃ v G', ACall Tryz.prog 77 [.slice p_a0 a0.length c_a0] H v G' ∧ (v = .slice p_a0 r0.length c_a0) ∧ St ((oseg p_a0 (ints a0)).map (·.1)) H G' [oseg p_a0 (ints m_a0)] ∧ m_a0.length = a0.length := by
  obtain ⟨hx, hd⟩ := chk_some hd
  obtain ⟨rfl, rfl⟩ := Prod.mk.inj (some_inj hd)
  have hlen : (Lib.compact a0 ++ List.replicate (a0.length - (Lib.compact a0).length) 0).length = a0.length := by
    have := compact_len a0
    rw [List.length_append, List.length_replicate]; omega
  by_cases ha : a0 = []
  · subst ha
    have hc : Lib.compact ([] : List Int) = [] := List.eq_nil_of_length_eq_zero (Nat.le_zero.1 (compact_len []))
    refine ⟨.slice p_a0 0 c_a0, H, ?_, by rw [hc]; rfl, ?_, hlen⟩
    · intro W φ w args' hs hva
      have hsz := hva.size
      obtain ⟨u0, h0⟩ : ∃ u, args'[0]? = some u := ⟨_, Array.getElem?_eq_getElem (by rw [hsz]; exact Nat.zero_lt_one)⟩
      have hv0 := hva.get 0 _ _ rfl h0
      obtain ⟨a, cap, he⟩ : ∃ a cap, u0 = .slice a 0 cap := by
            cases hv0 with
        | nilSlice => exact ⟨_, _, rfl⟩
        | slice => exact ⟨_, _, rfl⟩
        | empty => exact ⟨_, _, rfl⟩
      have hargs : args' = #[.slice a 0 cap] := by
        apply Array.ext_getElem?
        intro j
        cases j with
        | zero => rw [h0, he]; rfl
        | succ j => rw [Array.getElem?_eq_none (by rw [hsz]; simp), Array.getElem?_eq_none (by simp)]
      rw [hargs]
      refine (Tryz.slices_Compact_int_empty a cap w).mono ?_
      rintro e w' ⟨rfl, rfl⟩
      exact ⟨_, φ, rfl, hs, by rw [← he]; exact hv0, Step.refl _ _ _⟩
    · rw [hc]; exact (St.init (l := oseg p_a0 (ints [])) hn ho).same (by simp)
  · have hpos : 0 < a0.length := List.length_pos_iff.2 ha
    have hp := s_a0.at hpos
    generalize hb : blk p_a0 = b at hp
    subst hp
    have hgb := (ho (b, .row false (ints a0)) (by simp [oseg])).2
    have hgl := (ho (b, .row false (ints a0)) (by simp [oseg])).1
    refine ⟨.slice (some ⟨b, 0, none⟩) (Lib.compact a0).length c_a0, H.set b (.row false (ints (Lib.compact a0 ++ List.replicate (a0.length - (Lib.compact a0).length) 0))), ?_, rfl, ?_, hlen⟩
    · intro W φ w args' hs hva
      have hsz := hva.size
      obtain ⟨u0, h0⟩ : ∃ u, args'[0]? = some u := ⟨_, Array.getElem?_eq_getElem (by rw [hsz]; exact Nat.zero_lt_one)⟩
      have hv0 := hva.get 0 _ _ rfl h0
      obtain ⟨L, c', hL, he, hcc, hcu, hnc⟩ : ∃ L c', φ b = some L ∧ u0 = .slice (some ⟨L.block, L.off + 0, none⟩) a0.length c' ∧ (c_a0 < capU → c' = c_a0) ∧ (∀ m, c_a0 = capU + m → 0 + c' * m ≤ L.ext) ∧ a0.length ≤ c' := by
        obtain ⟨L, c', h, rfl, h1, h2, h3⟩ := hv0.inv_slice (.inl (by omega))
        exact ⟨L, c', h, rfl, h1, h2, h3⟩
      have hargs : args' = #[.slice (some ⟨L.block, L.off + 0, none⟩) a0.length c'] := by
        apply Array.ext_getElem?
        intro j
        cases j with
        | zero => rw [h0, he]; rfl
        | succ j => rw [Array.getElem?_eq_none (by rw [hsz]; simp), Array.getElem?_eq_none (by simp)]
      have hH := row_holds hs hL hgb
      rw [hargs]
      refine (Tryz.slices_Compact_int L.block (L.off + 0) c' a0 w hH (by omega) hnc).mono ?_
      rintro e w' ⟨rfl, q, rfl⟩
      have hk := put_ok hs hL hgb hlen q #[]
      rw [grow_empty] at hk
      refine ⟨_, φ, rfl, hk.1, ?_, hk.2⟩
      exact .slice b 0 _ c_a0 L c' hL hcc hcu (Nat.le_trans (compact_len a0) hnc)
    · obtain ⟨G', hG, S⟩ := (St.init (l := oseg (some ⟨b, 0, none⟩) (ints a0)) hn ho).set (k := 0) (i := b) rfl (.row false (ints (Lib.compact a0 ++ List.replicate (a0.length - (Lib.compact a0).length) 0)))
      rw [hG]; exact S
end Go.Proofs.YtdafmafigcljkaaGreat
