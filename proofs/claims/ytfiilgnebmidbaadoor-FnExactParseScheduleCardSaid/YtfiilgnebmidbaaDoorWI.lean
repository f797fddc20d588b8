/-
  The program computes that, printed by a program. No condition.
-/
import Derived.Test.YtfiilgnebmidbaaDoorDI
import Derived.Test.YtfiilgnebmidbaaDoorWG
import Derived.Test.YtfiilgnebmidbaaDoorWH
import Derived.Test.YtfiilgnebmidbaaDoorProg
import Derived.KernelRfl
namespace Go.Proofs.YtfiilgnebmidbaaDoor
open Go Go.RowKit Am
set_option linter.unusedVariables false
set_option linter.unusedSimpArgs false
set_option maxRecDepth 20000
set_option maxHeartbeats 4000000 in
theorem W_spec_RoundOf (fu : Nat) (H : AHeap) (a0 : Int) (p_a1 : Option Addr) (c_a1 : Nat) (T_a1 : Tb) (a1 : List (List Int)) (t_a1 : trows T_a1 = a1) (v_a1 : Vw H p_a1 a1.length c_a1 (tcells T_a1)) (w_a1 : TVw H T_a1) (r0 : List Int) (r1 : Int) (hd : D_spec_RoundOf fu a0 a1 = some (r0, r1)) : ACall Tryd.prog 98 [.int .i64 a0, .slice p_a1 a1.length c_a1] H (.tuple #[.agg (ints r0).toArray, .int .i64 r1]) H ∧ r0.length = 14 := by
  refine ACall.bodyPF (N := 118) [(0, .int .i64 a0), (1, .slice p_a1 a1.length c_a1)] Tryd.func98 rfl rfl rfl rfl ?_
  unfold D_spec_RoundOf at hd
  have S0 : St [] H H [] := St.nil H
  refine AX.seq ?_
  refine AX.region ?_
  obtain ⟨G100, i101, hii101, hHG100, S102⟩ := S0.new (AObj.row false (ints (List.replicate 14 0)))
  refine AO.c rfl (s_alloc (i := i101) (cs := ints (List.replicate 14 0)) Tryd.zeroValue76 rfl rfl hii101 hHG100) ?_
  refine AO.p rfl (p_assign rfl) ?_
  refine AO.nil ?_
  refine AX.seq ?_
  obtain ⟨r113, hb114, hd115⟩ := bnd_some hd
  refine AX.cut (fun t' H' => ∃ (b112 : Bool), b112 = r113 ∧ St [] H H' [[(i101, AObj.row false (ints (List.replicate 14 0)))]] ∧ Am.Sub [(0, .int .i64 a0), (1, .slice p_a1 a1.length c_a1), (4, .pointer (some ⟨i101, 0, none⟩)), (16, .bool b112)] t') ?_ ?_
  · skip
    refine AX.region ?_
    refine AO.p rfl (p_move rfl) ?_
    obtain ⟨b116, h117, hd118⟩ := bnd_some hb114
    refine AO.c rfl (o_call (vs := [.int .i64 a0, .int .i64 2, .int .i64 14]) rfl Tryd.call55 (W_spec_l01In fu G100 a0 2 14 b116 h117)) ?_
    refine AO.p rfl (p_not rfl) ?_
    refine AO.p rfl (p_move rfl) ?_
    refine AO.cases (d := 12) rfl (fun c120 => ?_) (fun c120 => ?_)
    · have hd121 := bif_t c120 hd118
      refine AO.gn rfl rfl rfl ?_
      refine AO.gn rfl rfl rfl ?_
      refine AO.gn rfl rfl rfl ?_
      refine AO.p rfl (p_pickT rfl rfl) ?_
      refine AO.nil ?_
      have S122 := S102.front 0 rfl
      exact ⟨true, (some_inj hd121), S122, Sub.cons' rfl rfl (Sub.cons' rfl rfl (Sub.cons' rfl rfl (Sub.cons' rfl rfl (Sub.nil _))))⟩
    · have hd123 := bif_f c120 hd118
      refine AO.gp rfl rfl rfl (p_move rfl) ?_
      refine AO.gp rfl rfl rfl (p_len_slice rfl Tryd.underlying22) ?_
      refine AO.gp rfl rfl rfl (p_gtr rfl rfl) ?_
      refine AO.p rfl (p_pickF rfl rfl) ?_
      refine AO.nil ?_
      have S124 := S102.front 0 rfl
      exact ⟨(decide (14 < ((a1.length : Nat) : Int))), (some_inj hd123), S124, Sub.cons' rfl rfl (Sub.cons' rfl rfl (Sub.cons' rfl rfl (Sub.cons' rfl rfl (Sub.nil _))))⟩
  · rintro t' G126 ⟨b112, rfl, S125, hsub127⟩
    refine AX.sub hsub127 ?_
    refine AX.cond rfl (fun c128 => ?_) (fun c128 => ?_)
    · have hd129 := bif_t c128 hd115
      refine AX.seq ?_
      refine AX.region ?_
      refine AO.p rfl (p_buildZ (z := ints (List.replicate 14 0)) Tryd.underlying76 Tryd.sizeOf2 Tryd.zeroValue76 rfl) ?_
      obtain ⟨G130, hHG130, S131⟩ := S125.set (k := 0) (i := i101) rfl (AObj.row false (ints (List.replicate 14 0)))
      refine AO.s (s_storeAll (vs := ints (List.replicate 14 0)) Tryd.sizeOf76 rfl rfl ints_one (S125.get (k := 0) rfl) (ints_len len_rep) (ints_len len_rep) hHG130) ?_
      refine AO.p rfl (p_assign rfl) ?_
      refine AO.nil ?_
      refine AX.ret ?_
      obtain ⟨rfl, rfl⟩ := Prod.mk.inj (some_inj hd129)
      exact ⟨.inr rfl, _, res2 rfl (rv_cell (vs := ints (List.replicate 14 0)) rfl Tryd.isAgg76 Tryd.sizeOf76 (ints_len len_rep) (row_cells (S131.get (k := 0) rfl))) (rv_tmp rfl), rfl, (flat_t2 (flat_arr _) (flatB_ok rfl)), S131.hold, len_rep⟩
    · have hd133 := bif_f c128 hd115
      refine AX.skip ?_
      refine AX.seq ?_
      refine AX.seq ?_
      refine AX.region ?_
      refine AO.p rfl (p_assign rfl) ?_
      refine AO.nil ?_
      obtain ⟨r572, hl573, hd574⟩ := bnd_some hd133
      refine AX.cutS (fun t' H' => .inl () = r572 ∧ St [] H H' [[(i101, AObj.row false (ints (List.replicate 14 0)))]] ∧ Am.Sub [(0, .int .i64 a0), (1, .slice p_a1 a1.length c_a1), (4, .pointer (some ⟨i101, 0, none⟩))] t') ?_ ?_
      · refine AX.block ?_
        refine AX.loopF (fun s' t' H' => ∃ (x426 : Int), x426 = s' ∧ St [] H H' [[(i101, AObj.row false (ints (List.replicate 14 0)))]] ∧ Am.Sub [(0, .int .i64 a0), (1, .slice p_a1 a1.length c_a1), (4, .pointer (some ⟨i101, 0, none⟩)), (6, .int .i64 x426)] t') hl573 ?_ ?_
        · skip
          have S575 := S125.front 0 rfl
          exact ⟨0, rfl, S575, Sub.cons' rfl rfl (Sub.cons' rfl rfl (Sub.cons' rfl rfl (Sub.cons' rfl rfl (Sub.nil _))))⟩
        · rintro n576 _ t' G580 ⟨x426, rfl, S579, hsub581⟩ o582 ho577 hk578
          refine AX.sub hsub581 ?_
          unfold D_spec_RoundOf_s0 at ho577
          refine AX.seq ?_
          refine AX.seq ?_
          refine AX.region ?_
          refine AO.p rfl (p_move rfl) ?_
          refine AO.p rfl (p_move rfl) ?_
          refine AO.p rfl (p_len_slice rfl Tryd.underlying22) ?_
          refine AO.p rfl (p_lss rfl rfl) ?_
          refine AO.nil ?_
          refine AX.cond rfl (fun c583 => ?_) (fun c583 => ?_)
          · have hd584 := bif_t c583 ho577
            refine AX.skip ?_
            refine AX.seq ?_
            refine AX.block ?_
            obtain ⟨r646, hb647, hd648⟩ := bnd_some hd584
            refine AX.cut (fun t' H' => ∃ (b645 : Bool), b645 = r646 ∧ St [] H H' [[(i101, AObj.row false (ints (List.replicate 14 0)))]] ∧ Am.Sub [(0, .int .i64 a0), (1, .slice p_a1 a1.length c_a1), (4, .pointer (some ⟨i101, 0, none⟩)), (6, .int .i64 x426), (68, .bool b645)] t') ?_ ?_
            · skip
              refine DR.startS [false, false, false, false, false, false, false, false, false, false, false, false, false, false, false, true, false, false, false, false, false, false, false, false, false, false, false, true, false, false, false, false, false, false, false, false, false, false, false, false, false, false, false, false, false] mix (by kernel_rfl) (fun hst => ?_)
              refine DR.p rfl rfl (p_move rfl) ?_
              refine DR.p rfl rfl (p_move rfl) ?_
              obtain ⟨k649, hd650⟩ := chk_some hb647
              obtain ⟨p651, c652, e653, f654⟩ := tget t_a1 (lt_len rfl (inR_lt k649))
              refine DR.p rfl rfl (s_indexV (q := off p_a1 + x426.toNat) Tryd.underlying22 Tryd.sizeOf66 rfl ((S579.view v_a1).p f654) rfl k649 (o1 _ _)) ?_
              refine DR.r rfl rfl (r_load rfl Tryd.isAgg66) (one_read ((S579.view v_a1).get _ _ f654) (TVw.at (S579.tview w_a1) e653).inn.bel) ?_
              refine DR.p rfl rfl (p_len_slice rfl Tryd.underlying66) ?_
              refine DR.p rfl rfl (p_neq rfl rfl) ?_
              refine DR.pb rfl rfl (p_move rfl) (fun c655 => ?_) (fun c655 => ?_)
              · have hd656 := bif_t c655 hd650
                refine DR.gn rfl rfl rfl rfl ?_
                refine DR.gn rfl rfl rfl rfl ?_
                refine DR.gn rfl rfl rfl rfl ?_
                refine DR.gn rfl rfl rfl rfl ?_
                refine DR.gn rfl rfl rfl rfl ?_
                refine DR.gn rfl rfl rfl rfl ?_
                refine DR.gn rfl rfl rfl rfl ?_
                refine DR.gn rfl rfl rfl rfl ?_
                refine DR.gn rfl rfl rfl rfl ?_
                refine DR.gn rfl rfl rfl rfl ?_
                refine DR.p rfl rfl (p_pickT rfl rfl) ?_
                refine DR.p rfl rfl (p_move rfl) ?_
                refine DR.gn rfl rfl rfl rfl ?_
                refine DR.gn rfl rfl rfl rfl ?_
                refine DR.gn rfl rfl rfl rfl ?_
                refine DR.gn rfl rfl rfl rfl ?_
                refine DR.gn rfl rfl rfl rfl ?_
                refine DR.gn rfl rfl rfl rfl ?_
                refine DR.gn rfl rfl rfl rfl ?_
                refine DR.gn rfl rfl rfl rfl ?_
                refine DR.gn rfl rfl rfl rfl ?_
                refine DR.gn rfl rfl rfl rfl ?_
                refine DR.p rfl rfl (p_pickT rfl rfl) ?_
                refine DR.p rfl rfl (p_move rfl) ?_
                refine DR.gn rfl rfl rfl rfl ?_
                refine DR.gn rfl rfl rfl rfl ?_
                refine DR.gn rfl rfl rfl rfl ?_
                refine DR.gn rfl rfl rfl rfl ?_
                refine DR.gn rfl rfl rfl rfl ?_
                refine DR.gn rfl rfl rfl rfl ?_
                refine DR.gn rfl rfl rfl rfl ?_
                refine DR.gn rfl rfl rfl rfl ?_
                refine DR.gn rfl rfl rfl rfl ?_
                refine DR.gn rfl rfl rfl rfl ?_
                refine DR.gn rfl rfl rfl rfl ?_
                refine DR.gn rfl rfl rfl rfl ?_
                refine DR.gn rfl rfl rfl rfl ?_
                refine DR.p rfl rfl (p_pickT rfl rfl) ?_
                refine DR.nil 45 [] hst (by kernel_rfl) trivial ?_
                have S657 := S579.front 0 rfl
                exact ⟨true, (some_inj hd656), S657, Sub.cons' rfl rfl (Sub.cons' rfl rfl (Sub.cons' rfl rfl (Sub.cons' rfl rfl (Sub.cons' rfl rfl (Sub.nil _)))))⟩
              · have hd658 := bif_f c655 hd650
                refine DR.gp rfl rfl rfl rfl (p_move rfl) ?_
                refine DR.gp rfl rfl rfl rfl (p_move rfl) ?_
                obtain ⟨k659, hd660⟩ := chk_some hd658
                obtain ⟨p661, c662, e663, f664⟩ := tget t_a1 (lt_len rfl (inR_lt k659))
                refine DR.gp rfl rfl rfl rfl (s_indexV (q := off p_a1 + x426.toNat) Tryd.underlying22 Tryd.sizeOf66 rfl ((S579.view v_a1).p f664) rfl k659 (o1 _ _)) ?_
                refine DR.gr rfl rfl rfl rfl (r_load rfl Tryd.isAgg66) (one_read ((S579.view v_a1).get _ _ f664) (TVw.at (S579.tview w_a1) e663).inn.bel) ?_
                obtain ⟨k665, hd666⟩ := chk_some hd660
                refine DR.gp rfl rfl rfl rfl (s_indexV (q := off p661 + 0) Tryd.underlying66 Tryd.sizeOf2 rfl ((TVw.at (S579.tview w_a1) e663).p (ints_get (lt_len rfl (inR_lt k665)))) rfl k665 (o1 _ _)) ?_
                refine DR.gr rfl rfl rfl rfl (r_load rfl Tryd.isAgg2) (one_read ((TVw.at (S579.tview w_a1) e663).get _ _ (ints_get (lt_len rfl (inR_lt k665)))) (.of_flat0 rfl)) ?_
                refine DR.gp rfl rfl rfl rfl (p_move rfl) ?_
                obtain ⟨k667, hd668⟩ := chk_some hd666
                refine DR.gp rfl rfl rfl rfl (p_subE rfl rfl k667) ?_
                obtain ⟨b669, h670, hd671⟩ := bnd_some hd668
                refine DR.gw rfl rfl rfl rfl (o_call (vs := [.int .i64 (rd (rw_ a1 x426.toNat) 0), .int .i64 0, .int .i64 (a0 - 1)]) rfl Tryd.call55 (W_spec_l01In fu G580 (rd (rw_ a1 x426.toNat) 0) 0 (a0 - 1) b669 h670)) (Nat.le_refl _) ?_
                refine DR.gp rfl rfl rfl rfl (p_not rfl) ?_
                refine DR.p rfl rfl (p_pickF rfl rfl) ?_
                refine DR.pb rfl rfl (p_move rfl) (fun c673 => ?_) (fun c673 => ?_)
                · have hd674 := bif_t c673 hd671
                  refine DR.gn rfl rfl rfl rfl ?_
                  refine DR.gn rfl rfl rfl rfl ?_
                  refine DR.gn rfl rfl rfl rfl ?_
                  refine DR.gn rfl rfl rfl rfl ?_
                  refine DR.gn rfl rfl rfl rfl ?_
                  refine DR.gn rfl rfl rfl rfl ?_
                  refine DR.gn rfl rfl rfl rfl ?_
                  refine DR.gn rfl rfl rfl rfl ?_
                  refine DR.gn rfl rfl rfl rfl ?_
                  refine DR.gn rfl rfl rfl rfl ?_
                  refine DR.p rfl rfl (p_pickT rfl rfl) ?_
                  refine DR.p rfl rfl (p_move rfl) ?_
                  refine DR.gn rfl rfl rfl rfl ?_
                  refine DR.gn rfl rfl rfl rfl ?_
                  refine DR.gn rfl rfl rfl rfl ?_
                  refine DR.gn rfl rfl rfl rfl ?_
                  refine DR.gn rfl rfl rfl rfl ?_
                  refine DR.gn rfl rfl rfl rfl ?_
                  refine DR.gn rfl rfl rfl rfl ?_
                  refine DR.gn rfl rfl rfl rfl ?_
                  refine DR.gn rfl rfl rfl rfl ?_
                  refine DR.gn rfl rfl rfl rfl ?_
                  refine DR.gn rfl rfl rfl rfl ?_
                  refine DR.gn rfl rfl rfl rfl ?_
                  refine DR.gn rfl rfl rfl rfl ?_
                  refine DR.p rfl rfl (p_pickT rfl rfl) ?_
                  refine DR.nil 45 [] hst (by kernel_rfl) trivial ?_
                  have S675 := S579.front 0 rfl
                  exact ⟨true, (some_inj hd674), S675, Sub.cons' rfl rfl (Sub.cons' rfl rfl (Sub.cons' rfl rfl (Sub.cons' rfl rfl (Sub.cons' rfl rfl (Sub.nil _)))))⟩
                · have hd676 := bif_f c673 hd671
                  refine DR.gp rfl rfl rfl rfl (p_move rfl) ?_
                  refine DR.gp rfl rfl rfl rfl (p_move rfl) ?_
                  obtain ⟨k677, hd678⟩ := chk_some hd676
                  obtain ⟨p679, c680, e681, f682⟩ := tget t_a1 (lt_len rfl (inR_lt k677))
                  refine DR.gp rfl rfl rfl rfl (s_indexV (q := off p_a1 + x426.toNat) Tryd.underlying22 Tryd.sizeOf66 rfl ((S579.view v_a1).p f682) rfl k677 (o1 _ _)) ?_
                  refine DR.gr rfl rfl rfl rfl (r_load rfl Tryd.isAgg66) (one_read ((S579.view v_a1).get _ _ f682) (TVw.at (S579.tview w_a1) e681).inn.bel) ?_
                  obtain ⟨k683, hd684⟩ := chk_some hd678
                  refine DR.gp rfl rfl rfl rfl (s_indexV (q := off p679 + 1) Tryd.underlying66 Tryd.sizeOf2 rfl ((TVw.at (S579.tview w_a1) e681).p (ints_get (lt_len rfl (inR_lt k683)))) rfl k683 (o1 _ _)) ?_
                  refine DR.gr rfl rfl rfl rfl (r_load rfl Tryd.isAgg2) (one_read ((TVw.at (S579.tview w_a1) e681).get _ _ (ints_get (lt_len rfl (inR_lt k683)))) (.of_flat0 rfl)) ?_
                  refine DR.gp rfl rfl rfl rfl (p_move rfl) ?_
                  obtain ⟨k685, hd686⟩ := chk_some hd684
                  refine DR.gp rfl rfl rfl rfl (p_subE rfl rfl k685) ?_
                  obtain ⟨b687, h688, hd689⟩ := bnd_some hd686
                  refine DR.gw rfl rfl rfl rfl (o_call (vs := [.int .i64 (rd (rw_ a1 x426.toNat) 1), .int .i64 0, .int .i64 (a0 - 1)]) rfl Tryd.call55 (W_spec_l01In fu G580 (rd (rw_ a1 x426.toNat) 1) 0 (a0 - 1) b687 h688)) (Nat.le_refl _) ?_
                  refine DR.gp rfl rfl rfl rfl (p_not rfl) ?_
                  refine DR.p rfl rfl (p_pickF rfl rfl) ?_
                  refine DR.pb rfl rfl (p_move rfl) (fun c691 => ?_) (fun c691 => ?_)
                  · have hd692 := bif_t c691 hd689
                    refine DR.gn rfl rfl rfl rfl ?_
                    refine DR.gn rfl rfl rfl rfl ?_
                    refine DR.gn rfl rfl rfl rfl ?_
                    refine DR.gn rfl rfl rfl rfl ?_
                    refine DR.gn rfl rfl rfl rfl ?_
                    refine DR.gn rfl rfl rfl rfl ?_
                    refine DR.gn rfl rfl rfl rfl ?_
                    refine DR.gn rfl rfl rfl rfl ?_
                    refine DR.gn rfl rfl rfl rfl ?_
                    refine DR.gn rfl rfl rfl rfl ?_
                    refine DR.gn rfl rfl rfl rfl ?_
                    refine DR.gn rfl rfl rfl rfl ?_
                    refine DR.gn rfl rfl rfl rfl ?_
                    refine DR.p rfl rfl (p_pickT rfl rfl) ?_
                    refine DR.nil 45 [] hst (by kernel_rfl) trivial ?_
                    have S693 := S579.front 0 rfl
                    exact ⟨true, (some_inj hd692), S693, Sub.cons' rfl rfl (Sub.cons' rfl rfl (Sub.cons' rfl rfl (Sub.cons' rfl rfl (Sub.cons' rfl rfl (Sub.nil _)))))⟩
                  · have hd694 := bif_f c691 hd689
                    refine DR.gp rfl rfl rfl rfl (p_move rfl) ?_
                    refine DR.gp rfl rfl rfl rfl (p_move rfl) ?_
                    obtain ⟨k695, hd696⟩ := chk_some hd694
                    obtain ⟨p697, c698, e699, f700⟩ := tget t_a1 (lt_len rfl (inR_lt k695))
                    refine DR.gp rfl rfl rfl rfl (s_indexV (q := off p_a1 + x426.toNat) Tryd.underlying22 Tryd.sizeOf66 rfl ((S579.view v_a1).p f700) rfl k695 (o1 _ _)) ?_
                    refine DR.gr rfl rfl rfl rfl (r_load rfl Tryd.isAgg66) (one_read ((S579.view v_a1).get _ _ f700) (TVw.at (S579.tview w_a1) e699).inn.bel) ?_
                    obtain ⟨k701, hd702⟩ := chk_some hd696
                    refine DR.gp rfl rfl rfl rfl (s_indexV (q := off p697 + 0) Tryd.underlying66 Tryd.sizeOf2 rfl ((TVw.at (S579.tview w_a1) e699).p (ints_get (lt_len rfl (inR_lt k701)))) rfl k701 (o1 _ _)) ?_
                    refine DR.gr rfl rfl rfl rfl (r_load rfl Tryd.isAgg2) (one_read ((TVw.at (S579.tview w_a1) e699).get _ _ (ints_get (lt_len rfl (inR_lt k701)))) (.of_flat0 rfl)) ?_
                    refine DR.gp rfl rfl rfl rfl (p_move rfl) ?_
                    refine DR.gp rfl rfl rfl rfl (p_move rfl) ?_
                    obtain ⟨k703, hd704⟩ := chk_some hd702
                    obtain ⟨p705, c706, e707, f708⟩ := tget t_a1 (lt_len rfl (inR_lt k703))
                    refine DR.gp rfl rfl rfl rfl (s_indexV (q := off p_a1 + x426.toNat) Tryd.underlying22 Tryd.sizeOf66 rfl ((S579.view v_a1).p f708) rfl k703 (o1 _ _)) ?_
                    refine DR.gr rfl rfl rfl rfl (r_load rfl Tryd.isAgg66) (one_read ((S579.view v_a1).get _ _ f708) (TVw.at (S579.tview w_a1) e707).inn.bel) ?_
                    obtain ⟨k709, hd710⟩ := chk_some hd704
                    refine DR.gp rfl rfl rfl rfl (s_indexV (q := off p705 + 1) Tryd.underlying66 Tryd.sizeOf2 rfl ((TVw.at (S579.tview w_a1) e707).p (ints_get (lt_len rfl (inR_lt k709)))) rfl k709 (o1 _ _)) ?_
                    refine DR.gr rfl rfl rfl rfl (r_load rfl Tryd.isAgg2) (one_read ((TVw.at (S579.tview w_a1) e707).get _ _ (ints_get (lt_len rfl (inR_lt k709)))) (.of_flat0 rfl)) ?_
                    refine DR.gp rfl rfl rfl rfl (p_eql rfl rfl) ?_
                    refine DR.p rfl rfl (p_pickF rfl rfl) ?_
                    refine DR.nil 45 [] hst (by kernel_rfl) trivial ?_
                    have S711 := S579.front 0 rfl
                    exact ⟨(decide (rd (rw_ a1 x426.toNat) 0 = rd (rw_ a1 x426.toNat) 1)), (some_inj hd710), S711, Sub.cons' rfl rfl (Sub.cons' rfl rfl (Sub.cons' rfl rfl (Sub.cons' rfl rfl (Sub.cons' rfl rfl (Sub.nil _)))))⟩
            · rintro t' G713 ⟨b645, rfl, S712, hsub714⟩
              refine AX.sub hsub714 ?_
              refine AX.cond rfl (fun c715 => ?_) (fun c715 => ?_)
              · have hd716 := bif_t c715 hd648
                refine AX.seq ?_
                refine AX.region ?_
                refine AO.p rfl (p_buildZ (z := ints (List.replicate 14 0)) Tryd.underlying76 Tryd.sizeOf2 Tryd.zeroValue76 rfl) ?_
                obtain ⟨G717, hHG717, S718⟩ := S712.set (k := 0) (i := i101) rfl (AObj.row false (ints (List.replicate 14 0)))
                refine AO.s (s_storeAll (vs := ints (List.replicate 14 0)) Tryd.sizeOf76 rfl rfl ints_one (S712.get (k := 0) rfl) (ints_len len_rep) (ints_len len_rep) hHG717) ?_
                refine AO.p rfl (p_assign rfl) ?_
                refine AO.nil ?_
                refine AX.ret ?_
                obtain rfl := some_inj hd716
                have z719 : _ = r572 := hk578
                subst z719
                obtain ⟨rfl, rfl⟩ := Prod.mk.inj (some_inj hd574)
                exact ⟨.inr rfl, _, res2 rfl (rv_cell (vs := ints (List.replicate 14 0)) rfl Tryd.isAgg76 Tryd.sizeOf76 (ints_len len_rep) (row_cells (S718.get (k := 0) rfl))) (rv_tmp rfl), rfl, (flat_t2 (flat_arr _) (flatB_ok rfl)), S718.hold, len_rep⟩
              · have hd721 := bif_f c715 hd648
                refine AX.skip ?_
                refine AX.region ?_
                refine AO.p rfl (p_move rfl) ?_
                obtain ⟨k722, hd723⟩ := chk_some hd721
                refine AO.p rfl (p_addE rfl rfl k722) ?_
                refine AO.p rfl (p_assign rfl) ?_
                refine AO.nil ?_
                obtain rfl := some_inj hd723
                have S725 := S712.front 0 rfl
                exact ⟨x426 + 1, hk578, (x426 + 1), rfl, S725, Sub.cons' rfl rfl (Sub.cons' rfl rfl (Sub.cons' rfl rfl (Sub.cons' rfl rfl (Sub.nil _))))⟩
          · have hd726 := bif_f c583 ho577
            refine AX.exit ?_
            obtain rfl := some_inj hd726
            have S727 := S579.front 0 rfl
            exact ⟨hk578, S727, Sub.cons' rfl rfl (Sub.cons' rfl rfl (Sub.cons' rfl rfl (Sub.nil _)))⟩
      · rintro t' G729 ⟨rfl, S728, hsub730⟩
        refine ⟨_, hsub730, ?_⟩
        refine AX.seq ?_
        refine AX.region ?_
        refine AO.p rfl (p_move rfl) ?_
        obtain ⟨k731, hd732⟩ := chk_some hd574
        obtain ⟨G733, i734, hii734, hHG733, S735⟩ := S728.new (AObj.row false (bls (List.replicate a0.toNat false)))
        refine AO.c rfl (s_make1 (v := .bool false) (i := i734) (by_ := 1) Tryd.underlying138 Tryd.typeInfo4 Tryd.sizeOf4 Tryd.zeroValue4 rfl rfl rfl rfl rfl rfl k731 bls_rep hii734 hHG733) ?_
        refine AO.p rfl (p_assign rfl) ?_
        refine AO.nil ?_
        refine AX.seq ?_
        refine AX.seq ?_
        refine AX.region ?_
        refine AO.p rfl (p_assign rfl) ?_
        refine AO.nil ?_
        obtain ⟨r1039, hl1040, hd1041⟩ := bnd_some hd732
        refine AX.cutS (fun t' H' => .inl () = r1039 ∧ St [] H H' [[(i101, AObj.row false (ints (List.replicate 14 0)))]] ∧ Am.Sub [(0, .int .i64 a0), (1, .slice p_a1 a1.length c_a1), (4, .pointer (some ⟨i101, 0, none⟩))] t') ?_ ?_
        · refine AX.block ?_
          refine AX.loopF (fun s' t' H' => ∃ (bs939 : List Bool) (x940 : Int), (bs939, x940) = s' ∧ St [] H H' [[(i101, AObj.row false (ints (List.replicate 14 0)))], [(i734, AObj.row false (bls bs939))]] ∧ bs939.length = a0.toNat ∧ Am.Sub [(0, .int .i64 a0), (1, .slice p_a1 a1.length c_a1), (4, .pointer (some ⟨i101, 0, none⟩)), (7, .slice (some (Addr.mk i734 0 none)) a0.toNat a0.toNat), (8, .int .i64 x940)] t') hl1040 ?_ ?_
          · skip
            have S1042 := S735.front 0 rfl
            have S1043 := S1042.front 1 rfl
            exact ⟨(List.replicate a0.toNat false), 0, rfl, S1043, len_rep, Sub.cons' rfl rfl (Sub.cons' rfl rfl (Sub.cons' rfl rfl (Sub.cons' rfl rfl (Sub.cons' rfl rfl (Sub.nil _)))))⟩
          · rintro n1044 _ t' G1048 ⟨bs939, x940, rfl, S1047, lbs939, hsub1049⟩ o1050 ho1045 hk1046
            refine AX.sub hsub1049 ?_
            unfold D_spec_RoundOf_s1 at ho1045
            refine AX.seq ?_
            refine AX.seq ?_
            refine AX.region ?_
            refine AO.p rfl (p_move rfl) ?_
            refine AO.p rfl (p_move rfl) ?_
            refine AO.p rfl (p_len_slice rfl Tryd.underlying22) ?_
            refine AO.p rfl (p_lss rfl rfl) ?_
            refine AO.nil ?_
            refine AX.cond rfl (fun c1051 => ?_) (fun c1051 => ?_)
            · have hd1052 := bif_t c1051 ho1045
              refine AX.skip ?_
              refine AX.seq ?_
              refine AX.block ?_
              refine AX.seq ?_
              obtain ⟨r1079, hb1080, hd1081⟩ := bnd_some hd1052
              refine AX.cut (fun t' H' => ∃ (b1078 : Bool), b1078 = r1079 ∧ St [] H H' [[(i101, AObj.row false (ints (List.replicate 14 0)))], [(i734, AObj.row false (bls bs939))]] ∧ Am.Sub [(0, .int .i64 a0), (1, .slice p_a1 a1.length c_a1), (4, .pointer (some ⟨i101, 0, none⟩)), (7, .slice (some (Addr.mk i734 0 none)) a0.toNat a0.toNat), (8, .int .i64 x940), (97, .bool b1078)] t') ?_ ?_
              · skip
                refine AX.region ?_
                refine AO.p rfl (p_move rfl) ?_
                refine AO.p rfl (p_move rfl) ?_
                refine AO.p rfl (p_move rfl) ?_
                obtain ⟨k1082, hd1083⟩ := chk_some hb1080
                obtain ⟨p1084, c1085, e1086, f1087⟩ := tget t_a1 (lt_len rfl (inR_lt k1082))
                refine AO.p rfl (s_indexV (q := off p_a1 + x940.toNat) Tryd.underlying22 Tryd.sizeOf66 rfl ((S1047.view v_a1).p f1087) rfl k1082 (o1 _ _)) ?_
                refine AO.c rfl (s_load Tryd.isAgg66 rfl ((S1047.view v_a1).get _ _ f1087)) ?_
                obtain ⟨k1088, hd1089⟩ := chk_some hd1083
                refine AO.p rfl (s_indexV (q := off p1084 + 0) Tryd.underlying66 Tryd.sizeOf2 rfl ((TVw.at (S1047.tview w_a1) e1086).p (ints_get (lt_len rfl (inR_lt k1088)))) rfl k1088 (o1 _ _)) ?_
                refine AO.c rfl (s_load Tryd.isAgg2 rfl ((TVw.at (S1047.tview w_a1) e1086).get _ _ (ints_get (lt_len rfl (inR_lt k1088))))) ?_
                obtain ⟨k1090, hd1091⟩ := chk_some hd1089
                refine AO.p rfl (s_indexV (q := (rd (rw_ a1 x940.toNat) 0).toNat) Tryd.underlying138 Tryd.sizeOf4 rfl rfl rfl k1090 (z1 _)) ?_
                refine AO.c rfl (s_load Tryd.isAgg4 rfl (row_cell (S1047.get (k := 1) rfl) (bls_get (lt_len lbs939 (inR_lt k1090))))) ?_
                refine AO.p rfl (p_move rfl) ?_
                refine AO.cases (d := 87) rfl (fun c1092 => ?_) (fun c1092 => ?_)
                · have hd1093 := bif_t c1092 hd1091
                  refine AO.gn rfl rfl rfl ?_
                  refine AO.gn rfl rfl rfl ?_
                  refine AO.gn rfl rfl rfl ?_
                  refine AO.gn rfl rfl rfl ?_
                  refine AO.gn rfl rfl rfl ?_
                  refine AO.gn rfl rfl rfl ?_
                  refine AO.gn rfl rfl rfl ?_
                  refine AO.gn rfl rfl rfl ?_
                  refine AO.gn rfl rfl rfl ?_
                  refine AO.p rfl (p_pickT rfl rfl) ?_
                  refine AO.nil ?_
                  have S1094 := S1047.front 1 rfl
                  have S1095 := S1094.front 1 rfl
                  exact ⟨true, (some_inj hd1093), S1095, Sub.cons' rfl rfl (Sub.cons' rfl rfl (Sub.cons' rfl rfl (Sub.cons' rfl rfl (Sub.cons' rfl rfl (Sub.cons' rfl rfl (Sub.nil _))))))⟩
                · have hd1096 := bif_f c1092 hd1091
                  refine AO.gp rfl rfl rfl (p_move rfl) ?_
                  refine AO.gp rfl rfl rfl (p_move rfl) ?_
                  refine AO.gp rfl rfl rfl (p_move rfl) ?_
                  obtain ⟨k1097, hd1098⟩ := chk_some hd1096
                  obtain ⟨p1099, c1100, e1101, f1102⟩ := tget t_a1 (lt_len rfl (inR_lt k1097))
                  refine AO.gp rfl rfl rfl (s_indexV (q := off p_a1 + x940.toNat) Tryd.underlying22 Tryd.sizeOf66 rfl ((S1047.view v_a1).p f1102) rfl k1097 (o1 _ _)) ?_
                  refine AO.gc rfl rfl rfl (s_load Tryd.isAgg66 rfl ((S1047.view v_a1).get _ _ f1102)) ?_
                  obtain ⟨k1103, hd1104⟩ := chk_some hd1098
                  refine AO.gp rfl rfl rfl (s_indexV (q := off p1099 + 1) Tryd.underlying66 Tryd.sizeOf2 rfl ((TVw.at (S1047.tview w_a1) e1101).p (ints_get (lt_len rfl (inR_lt k1103)))) rfl k1103 (o1 _ _)) ?_
                  refine AO.gc rfl rfl rfl (s_load Tryd.isAgg2 rfl ((TVw.at (S1047.tview w_a1) e1101).get _ _ (ints_get (lt_len rfl (inR_lt k1103))))) ?_
                  obtain ⟨k1105, hd1106⟩ := chk_some hd1104
                  refine AO.gp rfl rfl rfl (s_indexV (q := (rd (rw_ a1 x940.toNat) 1).toNat) Tryd.underlying138 Tryd.sizeOf4 rfl rfl rfl k1105 (z1 _)) ?_
                  refine AO.gc rfl rfl rfl (s_load Tryd.isAgg4 rfl (row_cell (S1047.get (k := 1) rfl) (bls_get (lt_len lbs939 (inR_lt k1105))))) ?_
                  refine AO.p rfl (p_pickF rfl rfl) ?_
                  refine AO.nil ?_
                  have S1107 := S1047.front 1 rfl
                  have S1108 := S1107.front 1 rfl
                  exact ⟨(rdb bs939 ((rd (rw_ a1 x940.toNat) 1).toNat)), (some_inj hd1106), S1108, Sub.cons' rfl rfl (Sub.cons' rfl rfl (Sub.cons' rfl rfl (Sub.cons' rfl rfl (Sub.cons' rfl rfl (Sub.cons' rfl rfl (Sub.nil _))))))⟩
              · rintro t' G1110 ⟨b1078, rfl, S1109, hsub1111⟩
                refine AX.sub hsub1111 ?_
                refine AX.cond rfl (fun c1112 => ?_) (fun c1112 => ?_)
                · have hd1113 := bif_t c1112 hd1081
                  refine AX.seq ?_
                  refine AX.region ?_
                  refine AO.p rfl (p_buildZ (z := ints (List.replicate 14 0)) Tryd.underlying76 Tryd.sizeOf2 Tryd.zeroValue76 rfl) ?_
                  obtain ⟨G1114, hHG1114, S1115⟩ := S1109.set (k := 0) (i := i101) rfl (AObj.row false (ints (List.replicate 14 0)))
                  refine AO.s (s_storeAll (vs := ints (List.replicate 14 0)) Tryd.sizeOf76 rfl rfl ints_one (S1109.get (k := 0) rfl) (ints_len len_rep) (ints_len len_rep) hHG1114) ?_
                  refine AO.p rfl (p_assign rfl) ?_
                  refine AO.nil ?_
                  refine AX.ret ?_
                  obtain rfl := some_inj hd1113
                  have z1116 : _ = r1039 := hk1046
                  subst z1116
                  obtain ⟨rfl, rfl⟩ := Prod.mk.inj (some_inj hd1041)
                  exact ⟨.inr rfl, _, res2 rfl (rv_cell (vs := ints (List.replicate 14 0)) rfl Tryd.isAgg76 Tryd.sizeOf76 (ints_len len_rep) (row_cells (S1115.get (k := 0) rfl))) (rv_tmp rfl), rfl, (flat_t2 (flat_arr _) (flatB_ok rfl)), S1115.hold, len_rep⟩
                · have hd1118 := bif_f c1112 hd1081
                  refine AX.skip ?_
                  refine AX.seq ?_
                  refine AX.region ?_
                  refine AO.p rfl (p_move rfl) ?_
                  refine AO.p rfl (p_move rfl) ?_
                  refine AO.p rfl (p_move rfl) ?_
                  obtain ⟨k1119, hd1120⟩ := chk_some hd1118
                  obtain ⟨p1121, c1122, e1123, f1124⟩ := tget t_a1 (lt_len rfl (inR_lt k1119))
                  refine AO.p rfl (s_indexV (q := off p_a1 + x940.toNat) Tryd.underlying22 Tryd.sizeOf66 rfl ((S1109.view v_a1).p f1124) rfl k1119 (o1 _ _)) ?_
                  refine AO.c rfl (s_load Tryd.isAgg66 rfl ((S1109.view v_a1).get _ _ f1124)) ?_
                  obtain ⟨k1125, hd1126⟩ := chk_some hd1120
                  refine AO.p rfl (s_indexV (q := off p1121 + 0) Tryd.underlying66 Tryd.sizeOf2 rfl ((TVw.at (S1109.tview w_a1) e1123).p (ints_get (lt_len rfl (inR_lt k1125)))) rfl k1125 (o1 _ _)) ?_
                  refine AO.c rfl (s_load Tryd.isAgg2 rfl ((TVw.at (S1109.tview w_a1) e1123).get _ _ (ints_get (lt_len rfl (inR_lt k1125))))) ?_
                  obtain ⟨k1127, hd1128⟩ := chk_some hd1126
                  refine AO.p rfl (s_indexV (q := (rd (rw_ a1 x940.toNat) 0).toNat) Tryd.underlying138 Tryd.sizeOf4 rfl rfl rfl k1127 (z1 _)) ?_
                  obtain ⟨G1129, hHG1129, S1130⟩ := S1109.set (k := 1) (i := i734) rfl (AObj.row false (bls (bs939.set ((rd (rw_ a1 x940.toNat) 0).toNat) true)))
                  refine AO.s (s_store Tryd.sizeOf4 rfl rfl rfl (S1109.get (k := 1) rfl) (lt_len ((bls_length _).trans lbs939) (inR_lt k1127)) ((congrArg (fun l => List.set _ _ (AObj.row false l)) (bls_set _ _ _)).trans hHG1129)) ?_
                  refine AO.nil ?_
                  refine AX.region ?_
                  refine AO.p rfl (p_move rfl) ?_
                  refine AO.p rfl (p_move rfl) ?_
                  refine AO.p rfl (p_move rfl) ?_
                  obtain ⟨k1131, hd1132⟩ := chk_some hd1128
                  obtain ⟨p1133, c1134, e1135, f1136⟩ := tget t_a1 (lt_len rfl (inR_lt k1131))
                  refine AO.p rfl (s_indexV (q := off p_a1 + x940.toNat) Tryd.underlying22 Tryd.sizeOf66 rfl ((S1130.view v_a1).p f1136) rfl k1131 (o1 _ _)) ?_
                  refine AO.c rfl (s_load Tryd.isAgg66 rfl ((S1130.view v_a1).get _ _ f1136)) ?_
                  obtain ⟨k1137, hd1138⟩ := chk_some hd1132
                  refine AO.p rfl (s_indexV (q := off p1133 + 1) Tryd.underlying66 Tryd.sizeOf2 rfl ((TVw.at (S1130.tview w_a1) e1135).p (ints_get (lt_len rfl (inR_lt k1137)))) rfl k1137 (o1 _ _)) ?_
                  refine AO.c rfl (s_load Tryd.isAgg2 rfl ((TVw.at (S1130.tview w_a1) e1135).get _ _ (ints_get (lt_len rfl (inR_lt k1137))))) ?_
                  obtain ⟨k1139, hd1140⟩ := chk_some hd1138
                  refine AO.p rfl (s_indexV (q := (rd (rw_ a1 x940.toNat) 1).toNat) Tryd.underlying138 Tryd.sizeOf4 rfl rfl rfl k1139 (z1 _)) ?_
                  obtain ⟨G1141, hHG1141, S1142⟩ := S1130.set (k := 1) (i := i734) rfl (AObj.row false (bls ((bs939.set ((rd (rw_ a1 x940.toNat) 0).toNat) true).set ((rd (rw_ a1 x940.toNat) 1).toNat) true)))
                  refine AO.s (s_store Tryd.sizeOf4 rfl rfl rfl (S1130.get (k := 1) rfl) (lt_len ((bls_length _).trans (len_set lbs939)) (inR_lt k1139)) ((congrArg (fun l => List.set _ _ (AObj.row false l)) (bls_set _ _ _)).trans hHG1141)) ?_
                  refine AO.nil ?_
                  refine AX.region ?_
                  refine AO.p rfl (p_move rfl) ?_
                  obtain ⟨k1143, hd1144⟩ := chk_some hd1140
                  refine AO.p rfl (p_addE rfl rfl k1143) ?_
                  refine AO.p rfl (p_assign rfl) ?_
                  refine AO.nil ?_
                  obtain rfl := some_inj hd1144
                  have S1146 := S1142.front 1 rfl
                  have S1147 := S1146.front 1 rfl
                  exact ⟨(((bs939.set ((rd (rw_ a1 x940.toNat) 0).toNat) true).set ((rd (rw_ a1 x940.toNat) 1).toNat) true), x940 + 1), hk1046, ((bs939.set ((rd (rw_ a1 x940.toNat) 0).toNat) true).set ((rd (rw_ a1 x940.toNat) 1).toNat) true), (x940 + 1), rfl, S1147, (len_set (len_set lbs939)), Sub.cons' rfl rfl (Sub.cons' rfl rfl (Sub.cons' rfl rfl (Sub.cons' rfl rfl (Sub.cons' rfl rfl (Sub.nil _)))))⟩
            · have hd1148 := bif_f c1051 ho1045
              refine AX.exit ?_
              obtain rfl := some_inj hd1148
              have S1149 := S1047.front 0 rfl
              have S1150 := S1149.keep 1
              exact ⟨hk1046, S1150, Sub.cons' rfl rfl (Sub.cons' rfl rfl (Sub.cons' rfl rfl (Sub.nil _)))⟩
        · rintro t' G1152 ⟨rfl, S1151, hsub1153⟩
          refine ⟨_, hsub1153, ?_⟩
          refine AX.seq ?_
          refine AX.region ?_
          refine AO.p rfl (p_move rfl) ?_
          refine AO.p rfl (p_move rfl) ?_
          obtain ⟨xs1154, h1155, hd1156⟩ := bnd_some hd1041
          obtain ⟨hc1158, l1159⟩ := W_spec_l01Made fu G1152 a0 p_a1 c_a1 T_a1 a1 t_a1 (S1151.view v_a1) (S1151.tview w_a1) xs1154 h1155
          refine AO.c rfl (o_call (vs := [.int .i64 a0, .slice p_a1 a1.length c_a1]) rfl Tryd.call115 hc1158) ?_
          obtain ⟨G1160, hHG1160, S1161⟩ := S1151.set (k := 0) (i := i101) rfl (AObj.row false (ints xs1154))
          refine AO.s (s_storeAll (vs := ints xs1154) Tryd.sizeOf76 rfl rfl ints_one (S1151.get (k := 0) rfl) (ints_len l1159) (ints_len len_rep) hHG1160) ?_
          refine AO.p rfl (p_assign rfl) ?_
          refine AO.nil ?_
          refine AX.ret ?_
          obtain ⟨rfl, rfl⟩ := Prod.mk.inj (some_inj hd1156)
          exact ⟨.inr rfl, _, res2 rfl (rv_cell (vs := ints xs1154) rfl Tryd.isAgg76 Tryd.sizeOf76 (ints_len l1159) (row_cells (S1161.get (k := 0) rfl))) (rv_tmp rfl), rfl, (flat_t2 (flat_arr _) (flatB_ok rfl)), S1161.hold, l1159⟩

set_option maxHeartbeats 4000000 in
theorem W_spec_l01ReadRound (fu : Nat) (H : AHeap) (a0 : Int) (a1 : ByteArray) (r0 : List Int) (r1 : Bool) (hd : D_spec_l01ReadRound fu a0 a1 = some (r0, r1)) : ACall Tryd.prog 78 [.int .i64 a0, .string a1] H (.tuple #[.agg (ints r0).toArray, .bool r1]) H ∧ r0.length = 14 := by
  refine ACall.bodyPF (N := 60) [(0, .int .i64 a0), (1, .string a1)] Tryd.func78 rfl rfl rfl rfl ?_
  unfold D_spec_l01ReadRound at hd
  have S0 : St [] H H [] := St.nil H
  refine AX.seq ?_
  refine AX.region ?_
  obtain ⟨G100, i101, hii101, hHG100, S102⟩ := S0.new (AObj.row false (ints (List.replicate 14 0)))
  refine AO.c rfl (s_alloc (i := i101) (cs := ints (List.replicate 14 0)) Tryd.zeroValue76 rfl rfl hii101 hHG100) ?_
  refine AO.p rfl (p_assign rfl) ?_
  refine AO.nil ?_
  refine AX.seq ?_
  refine AX.region ?_
  obtain ⟨G104, i105, hii105, hHG104, S106⟩ := S102.new (AObj.row false (tcells []))
  have S106t := S106.nilseg 1
  refine AO.c rfl (s_build0 (i := i105) Tryd.underlying22 Tryd.sizeOf66 hii105 hHG104) ?_
  refine AO.p rfl (p_assign rfl) ?_
  refine AO.nil ?_
  refine AX.seq ?_
  refine AX.seq ?_
  refine AX.region ?_
  refine AO.p rfl (p_move rfl) ?_
  refine AO.p rfl (p_neqS rfl rfl) ?_
  refine AO.nil ?_
  obtain ⟨r411, hb412, hd413⟩ := bnd_some hd
  refine AX.cutS (fun t' H' => ∃ (rs409 : List (List Int)) (p407 : Option Addr) (c408 : Nat) (T410 : Tb), .inl rs409 = r411 ∧ St [] H H' [[(i101, AObj.row false (ints (List.replicate 14 0)))], oseg p407 (tcells T410), tseg T410] ∧ trows T410 = rs409 ∧ TSb T410 ∧ Sb p407 (rs409.length) c408 1 ∧ Am.Sub [(0, .int .i64 a0), (1, .string a1), (4, .pointer (some ⟨i101, 0, none⟩)), (6, .slice p407 rs409.length c408)] t') ?_ ?_
  · skip
    refine AX.cond rfl (fun c414 => ?_) (fun c414 => ?_)
    · have hd415 := bif_t c414 hb412
      refine AX.seq ?_
      refine AX.region ?_
      refine AO.p rfl (p_move rfl) ?_
      obtain ⟨ss416, h417, hd418⟩ := bnd_some hd415
      obtain ⟨_, G424, hc423, p419, c420, rfl, S425, B422⟩ := W_spec_l01Split fu G104 a1 44 ss416 h417
      have S426 := S106t.call S425
      refine AO.c rfl (o_call (vs := [.string a1, .int .u8 44]) rfl Tryd.call40 hc423) ?_
      refine AO.p rfl (p_assign rfl) ?_
      refine AO.nil ?_
      refine AX.seq ?_
      refine AX.region ?_
      refine AO.p rfl (p_assign rfl) ?_
      refine AO.nil ?_
      obtain ⟨r629, hl630, hd631⟩ := bnd_some hd418
      refine AX.cutS (fun t' H' => ∃ (rs627 : List (List Int)) (p625 : Option Addr) (c626 : Nat) (T628 : Tb), .inl rs627 = r629 ∧ St [] H H' [[(i101, AObj.row false (ints (List.replicate 14 0)))], oseg p625 (tcells T628), tseg T628] ∧ trows T628 = rs627 ∧ TSb T628 ∧ Sb p625 (rs627.length) c626 1 ∧ Am.Sub [(0, .int .i64 a0), (1, .string a1), (4, .pointer (some ⟨i101, 0, none⟩)), (6, .slice p625 rs627.length c626)] t') ?_ ?_
      · refine AX.block ?_
        refine AX.loopF (fun s' t' H' => ∃ (rs560 : List (List Int)) (x563 : Int) (p558 : Option Addr) (c559 : Nat) (T561 : Tb), (rs560, x563) = s' ∧ St [] H H' [[(i101, AObj.row false (ints (List.replicate 14 0)))], oseg p558 (tcells T561), tseg T561, oseg p419 (sts ss416)] ∧ trows T561 = rs560 ∧ TSb T561 ∧ Sb p558 (rs560.length) c559 1 ∧ Am.Sub [(0, .int .i64 a0), (1, .string a1), (4, .pointer (some ⟨i101, 0, none⟩)), (6, .slice p558 rs560.length c559), (7, .slice p419 ss416.length c420), (8, .int .i64 x563)] t') hl630 ?_ ?_
        · skip
          have S632 := S426.front 0 rfl
          have S633 := S632.front 2 rfl
          have S634 := S633.front 2 rfl
          have S635 := S634.front 3 rfl
          exact ⟨[], 0, (some (Addr.mk i105 0 none)), 0, [], rfl, S635, rfl, TSb.nil, (Sb.lit (n := 0) (by decide)), Sub.cons' rfl rfl (Sub.cons' rfl rfl (Sub.cons' rfl rfl (Sub.cons' rfl rfl (Sub.cons' rfl rfl (Sub.cons' rfl rfl (Sub.nil _))))))⟩
        · rintro n636 _ t' G640 ⟨rs560, x563, p558, c559, T561, rfl, S639, tT561, sT561, Bo557, hsub641⟩ o642 ho637 hk638
          refine AX.sub hsub641 ?_
          unfold D_spec_l01ReadRound_s0 at ho637
          refine AX.seq ?_
          refine AX.seq ?_
          refine AX.region ?_
          refine AO.p rfl (p_move rfl) ?_
          refine AO.p rfl (p_move rfl) ?_
          refine AO.p rfl (p_len_slice rfl Tryd.underlying63) ?_
          refine AO.p rfl (p_lss rfl rfl) ?_
          refine AO.nil ?_
          refine AX.cond rfl (fun c643 => ?_) (fun c643 => ?_)
          · have hd644 := bif_t c643 ho637
            refine AX.skip ?_
            refine AX.seq ?_
            refine AX.block ?_
            refine AX.seq ?_
            refine AX.region ?_
            refine AO.p rfl (p_move rfl) ?_
            refine AO.p rfl (p_move rfl) ?_
            obtain ⟨k645, hd646⟩ := chk_some hd644
            refine AO.p rfl (s_indexV (q := x563.toNat) Tryd.underlying63 Tryd.sizeOf9 rfl (B422.at (inR_pos k645)) rfl k645 (z1 _)) ?_
            refine AO.c rfl (s_load Tryd.isAgg9 rfl (row_cell (S639.oat (k := 3) rfl (B422.at (inR_pos k645))) (sts_get (lt_len rfl (inR_lt k645))))) ?_
            obtain ⟨ss647, h648, hd649⟩ := bnd_some hd646
            obtain ⟨_, G655, hc654, p650, c651, rfl, S656, B653⟩ := W_spec_l01Split fu G640 (rds ss416 x563.toNat) 45 ss647 h648
            have S657 := S639.call S656
            refine AO.c rfl (o_call (vs := [.string (rds ss416 x563.toNat), .int .u8 45]) rfl Tryd.call40 hc654) ?_
            refine AO.p rfl (p_assign rfl) ?_
            refine AO.nil ?_
            refine AX.seq ?_
            refine AX.seq ?_
            refine AX.region ?_
            refine AO.p rfl (p_move rfl) ?_
            refine AO.p rfl (p_len_slice rfl Tryd.underlying63) ?_
            refine AO.p rfl (p_neq rfl rfl) ?_
            refine AO.nil ?_
            refine AX.cond rfl (fun c658 => ?_) (fun c658 => ?_)
            · have hd659 := bif_t c658 hd649
              refine AX.seq ?_
              refine AX.region ?_
              refine AO.p rfl (p_buildZ (z := ints (List.replicate 14 0)) Tryd.underlying76 Tryd.sizeOf2 Tryd.zeroValue76 rfl) ?_
              obtain ⟨G660, hHG660, S661⟩ := S657.set (k := 1) (i := i101) rfl (AObj.row false (ints (List.replicate 14 0)))
              refine AO.s (s_storeAll (vs := ints (List.replicate 14 0)) Tryd.sizeOf76 rfl rfl ints_one (S657.get (k := 1) rfl) (ints_len len_rep) (ints_len len_rep) hHG660) ?_
              refine AO.p rfl (p_assign rfl) ?_
              refine AO.nil ?_
              refine AX.ret ?_
              obtain rfl := some_inj hd659
              have z662 : _ = r629 := hk638
              subst z662
              have z663 : _ = r411 := some_inj hd631
              subst z663
              obtain ⟨rfl, rfl⟩ := Prod.mk.inj (some_inj hd413)
              exact ⟨.inr rfl, _, res2 rfl (rv_cell (vs := ints (List.replicate 14 0)) rfl Tryd.isAgg76 Tryd.sizeOf76 (ints_len len_rep) (row_cells (S661.get (k := 1) rfl))) (rv_tmp rfl), rfl, (flat_t2 (flat_arr _) (flatB_ok rfl)), S661.hold, len_rep⟩
            · have hd665 := bif_f c658 hd649
              refine AX.skip ?_
              refine DR.startS [false, false, false, false, true, false, false, false, true, false, false, true, false] mix (by kernel_rfl) (fun hst => ?_)
              refine DR.p rfl rfl (p_move rfl) ?_
              refine DR.p rfl rfl (p_move rfl) ?_
              obtain ⟨k666, hd667⟩ := chk_some hd665
              refine DR.p rfl rfl (s_indexV (q := 0) Tryd.underlying63 Tryd.sizeOf9 rfl (B653.at (inR_pos k666)) rfl k666 rfl) ?_
              refine DR.r rfl rfl (r_load rfl Tryd.isAgg9) (one_read (row_cell (S657.oat (k := 0) rfl (B653.at (inR_pos k666))) (sts_get (lt_len rfl (inR_lt k666)))) (.of_flat0 rfl)) ?_
              obtain ⟨x668, h669, hd670⟩ := bnd_some hd667
              refine DR.w rfl rfl (o_call (vs := [.string (rds ss647 0)]) rfl Tryd.call41 (W_spec_l01Number fu G655 (rds ss647 0) x668 h669)) (Nat.le_refl _) ?_
              refine DR.p rfl rfl (p_move rfl) ?_
              obtain ⟨k672, hd673⟩ := chk_some hd670
              refine DR.p rfl rfl (s_indexV (q := 1) Tryd.underlying63 Tryd.sizeOf9 rfl (B653.at (inR_pos k672)) rfl k672 rfl) ?_
              refine DR.r rfl rfl (r_load rfl Tryd.isAgg9) (one_read (row_cell (S657.oat (k := 0) rfl (B653.at (inR_pos k672))) (sts_get (lt_len rfl (inR_lt k672)))) (.of_flat0 rfl)) ?_
              obtain ⟨x674, h675, hd676⟩ := bnd_some hd673
              refine DR.w rfl rfl (o_call (vs := [.string (rds ss647 1)]) rfl Tryd.call41 (W_spec_l01Number fu G655 (rds ss647 1) x674 h675)) (Nat.le_refl _) ?_
              obtain ⟨G678, i679, hii679, hHG678, S680⟩ := S657.new (AObj.row false (ints [x668, x674]))
              refine DR.a rfl rfl hii679 hHG678 (a_buildInts (vs := [(0, .int .i64 x668), (1, .int .i64 x674)]) (xs := [x668, x674]) Tryd.underlying66 Tryd.sizeOf2 Tryd.zeroValue2 rfl rfl (by decide) rfl rfl) ?_
              obtain ⟨G682, i683, hii683, hHG682, S684⟩ := S680.new (AObj.row false (tcells ([((some (Addr.mk i679 0 none)), 2, [x668, x674])])))
              have S686 := (S684.front 1 rfl).tone (some (Addr.mk i679 0 none)) 2 [x668, x674] rfl
              refine DR.a rfl rfl hii683 hHG682 (a_buildT1 (X := [((some (Addr.mk i679 0 none)), 2, [x668, x674])]) (n := 2) rfl Tryd.underlying22 Tryd.sizeOf66 Tryd.zeroValue66 rfl rfl) ?_
              obtain ⟨k687, hd688⟩ := chk_some hd676
              obtain ⟨p689, c690, G691, haG691, S692, Bp689⟩ := S686.app (k := 4) rfl Bo557 (tcells ([((some (Addr.mk i679 0 none)), 2, [x668, x674])])) 1 (tc_len1 rfl rfl)
              have S693 := S692.cellsEq (k := 4) (us' := tcells (T561 ++ [((some (Addr.mk i679 0 none)), 2, [x668, x674])])) (tcells_app _ _).symm rfl
              have BS693 : Sb p689 ((rs560 ++ [[x668, x674]]).length) c690 1 := (show rs560.length + 1 = (rs560 ++ [[x668, x674]]).length from len_app (a := rs560) (b := [[x668, x674]]) rfl rfl) ▸ Bp689
              have S694 := S693.front 0 rfl
              have S695 := (S694.front 5 rfl).tmerge
              have S696 := S695.drop 1 rfl
              refine DR.w rfl rfl (s_app (by_ := 24) (us := tcells T561) (vs := tcells ([((some (Addr.mk i679 0 none)), 2, [x668, x674])])) Tryd.underlying22 Tryd.underlying22 Tryd.typeInfo66 Tryd.sizeOf66 Tryd.zeroValue66 rfl rfl rfl rfl rfl rfl rfl (S686.buf (k := 4) rfl Bo557 (tc_len1 tT561 rfl)) (S686.oview (k := 1) rfl (Sb.lit (n := 1) (by decide)) (tc_len1 rfl rfl)) (tc_len1 rfl rfl) tcells_one k687 haG691 (show rs560.length + 1 = (rs560 ++ [[x668, x674]]).length from len_app (a := rs560) (b := [[x668, x674]]) rfl rfl)) (appR_len haG691) ?_
              refine DR.p rfl rfl (p_assign rfl) ?_
              refine DR.nil 13 [(7, 4)] hst (by kernel_rfl) ⟨(rd1 (fun _ => rfl)), trivial⟩ ?_
              refine AX.region ?_
              refine AO.p rfl (p_move rfl) ?_
              obtain ⟨k697, hd698⟩ := chk_some hd688
              refine AO.p rfl (p_addE rfl rfl k697) ?_
              refine AO.p rfl (p_assign rfl) ?_
              refine AO.nil ?_
              obtain rfl := some_inj hd698
              have S700 := S696.front 4 rfl
              have S701 := S700.front 1 rfl
              have S702 := S701.front 4 rfl
              have S703 := S702.front 4 rfl
              have S704 := S703.keep 4
              exact ⟨((rs560 ++ [[x668, x674]]), x563 + 1), hk638, (rs560 ++ [[x668, x674]]), (x563 + 1), p689, c690, (T561 ++ [((some (Addr.mk i679 0 none)), 2, [x668, x674])]), rfl, S704, (trows_apps tT561 rfl), (TSb.app sT561 (TSb.one (sb_len rfl (Sb.lit (n := 2) (by decide))))), BS693, Sub.cons' rfl rfl (Sub.cons' rfl rfl (Sub.cons' rfl rfl (Sub.cons' rfl rfl (Sub.cons' rfl rfl (Sub.cons' rfl rfl (Sub.nil _))))))⟩
          · have hd705 := bif_f c643 ho637
            refine AX.exit ?_
            obtain rfl := some_inj hd705
            have S706 := S639.front 2 rfl
            have S707 := S706.front 2 rfl
            have S708 := S707.front 2 rfl
            have S709 := S708.keep 3
            exact ⟨rs560, p558, c559, T561, hk638, S709, tT561, sT561, Bo557, Sub.cons' rfl rfl (Sub.cons' rfl rfl (Sub.cons' rfl rfl (Sub.cons' rfl rfl (Sub.nil _))))⟩
      · rintro t' G711 ⟨rs627, p625, c626, T628, rfl, S710, tT628, sT628, Bo624, hsub712⟩
        refine ⟨_, hsub712, ?_⟩
        have S713 := S710.front 2 rfl
        have S714 := S713.front 2 rfl
        have S715 := S714.front 2 rfl
        exact ⟨rs627, p625, c626, T628, (some_inj hd631), S715, tT628, sT628, Bo624, Sub.cons' rfl rfl (Sub.cons' rfl rfl (Sub.cons' rfl rfl (Sub.cons' rfl rfl (Sub.nil _))))⟩
    · have hd717 := bif_f c414 hb412
      refine AX.skip ?_
      have S718 := S106t.front 1 rfl
      have S719 := S718.front 1 rfl
      have S720 := S719.front 2 rfl
      exact ⟨[], (some (Addr.mk i105 0 none)), 0, [], (some_inj hd717), S720, rfl, TSb.nil, (Sb.lit (n := 0) (by decide)), Sub.cons' rfl rfl (Sub.cons' rfl rfl (Sub.cons' rfl rfl (Sub.cons' rfl rfl (Sub.nil _))))⟩
  · rintro t' G722 ⟨rs409, p407, c408, T410, rfl, S721, tT410, sT410, Bo406, hsub723⟩
    refine ⟨_, hsub723, ?_⟩
    refine AX.seq ?_
    refine AX.region ?_
    refine AO.p rfl (p_move rfl) ?_
    refine AO.p rfl (p_move rfl) ?_
    obtain ⟨⟨xs724, x725⟩, h726, hd727⟩ := bnd_some hd413
    obtain ⟨hc729, l730⟩ := W_spec_RoundOf fu G722 a0 p407 c408 T410 rs409 tT410 (S721.oview (k := 1) rfl Bo406 (tc_len1 tT410 rfl)) (S721.oviewT (k := 2) rfl sT410) xs724 x725 h726
    refine AO.c rfl (o_call (vs := [.int .i64 a0, .slice p407 rs409.length c408]) rfl Tryd.call98 hc729) ?_
    refine AO.p rfl (p_move rfl) ?_
    refine AO.p rfl (p_extract rfl rfl) ?_
    refine AO.p rfl (p_extract rfl rfl) ?_
    obtain ⟨G731, i732, hii732, hHG731, S733⟩ := S721.new (AObj.row false (ints (List.replicate 14 0)))
    refine AO.c rfl (s_alloc (i := i732) (cs := ints (List.replicate 14 0)) Tryd.zeroValue76 rfl rfl hii732 hHG731) ?_
    obtain ⟨G735, hHG735, S736⟩ := S733.set (k := 0) (i := i732) rfl (AObj.row false (ints xs724))
    refine AO.s (s_storeAll (vs := ints xs724) Tryd.sizeOf76 rfl rfl ints_one (S733.get (k := 0) rfl) (ints_len l730) (ints_len len_rep) hHG735) ?_
    refine AO.p rfl (p_assign rfl) ?_
    refine AO.nil ?_
    obtain ⟨r750, hb751, hd752⟩ := bnd_some hd727
    refine AX.cut (fun t' H' => ∃ (b749 : Bool), b749 = r750 ∧ St [] H H' [[(i101, AObj.row false (ints xs724))]] ∧ Am.Sub [(4, .pointer (some ⟨i101, 0, none⟩)), (5, .bool b749)] t') ?_ ?_
    · skip
      refine DR.startS [false, false, false, false, false, false, true, false, false, false, true, false] mix (by kernel_rfl) (fun hst => ?_)
      refine DR.r rfl rfl (r_loadN (vs := ints xs724) rfl Tryd.isAgg76 Tryd.sizeOf76 (ints_len l730)) (many_row (row_cells (S736.get (k := 0) rfl)) bel_ints) ?_
      refine DR.p rfl rfl (p_move rfl) ?_
      refine DR.p rfl rfl (p_eql rfl rfl) ?_
      refine DR.pb rfl rfl (p_move rfl) (fun c753 => ?_) (fun c753 => ?_)
      · have hd754 := bif_t c753 hb751
        refine DR.gp rfl rfl rfl rfl (p_move rfl) ?_
        refine DR.gr rfl rfl rfl rfl (r_loadN (vs := ints xs724) rfl Tryd.isAgg76 Tryd.sizeOf76 (ints_len l730)) (many_row (row_cells (S736.get (k := 0) rfl)) bel_ints) ?_
        obtain ⟨s755, h756, hd757⟩ := bnd_some hd754
        refine DR.gw rfl rfl rfl rfl (o_call (vs := [.int .i64 a0, .agg (ints xs724).toArray]) rfl Tryd.call69 (W_spec_l01RoundText fu G735 a0 xs724 l730 s755 h756)) (Nat.le_refl _) ?_
        refine DR.gp rfl rfl rfl rfl (p_move rfl) ?_
        refine DR.gp rfl rfl rfl rfl (p_eqlS rfl rfl) ?_
        refine DR.p rfl rfl (p_pickT rfl rfl) ?_
        obtain ⟨G759, hHG759, S760⟩ := S736.set (k := 1) (i := i101) rfl (AObj.row false (ints xs724))
        refine DR.s rfl (s_storeAll (vs := ints xs724) Tryd.sizeOf76 rfl rfl ints_one (S736.get (k := 1) rfl) (ints_len l730) (ints_len len_rep) hHG759) (set_le hHG759) ?_
        refine DR.p rfl rfl (p_assign rfl) ?_
        refine DR.nil 12 [(0, 6)] hst (by kernel_rfl) ⟨(rdN (fun _ => rfl)), trivial⟩ ?_
        have S761 := S760.front 1 rfl
        have S762 := S761.keep 1
        exact ⟨((s755 : ByteArray).toList == (a1 : ByteArray).toList), (some_inj hd757), S762, Sub.cons' rfl rfl (Sub.cons' rfl rfl (Sub.nil _))⟩
      · have hd763 := bif_f c753 hb751
        refine DR.gn rfl rfl rfl rfl ?_
        refine DR.gn rfl rfl rfl rfl ?_
        refine DR.gn rfl rfl rfl rfl ?_
        refine DR.gn rfl rfl rfl rfl ?_
        refine DR.gn rfl rfl rfl rfl ?_
        refine DR.p rfl rfl (p_pickF rfl rfl) ?_
        obtain ⟨G764, hHG764, S765⟩ := S736.set (k := 1) (i := i101) rfl (AObj.row false (ints xs724))
        refine DR.s rfl (s_storeAll (vs := ints xs724) Tryd.sizeOf76 rfl rfl ints_one (S736.get (k := 1) rfl) (ints_len l730) (ints_len len_rep) hHG764) (set_le hHG764) ?_
        refine DR.p rfl rfl (p_assign rfl) ?_
        refine DR.nil 12 [] hst (by kernel_rfl) trivial ?_
        have S766 := S765.front 1 rfl
        have S767 := S766.keep 1
        exact ⟨false, (some_inj hd763), S767, Sub.cons' rfl rfl (Sub.cons' rfl rfl (Sub.nil _))⟩
    · rintro t' G769 ⟨b749, rfl, S768, hsub770⟩
      refine AX.sub hsub770 ?_
      refine AX.ret ?_
      obtain ⟨rfl, rfl⟩ := Prod.mk.inj (some_inj hd752)
      exact ⟨.inr rfl, _, res2 rfl (rv_cell (vs := ints xs724) rfl Tryd.isAgg76 Tryd.sizeOf76 (ints_len l730) (row_cells (S768.get (k := 0) rfl))) (rv_tmp rfl), rfl, (flat_t2 (flat_arr _) (flatB_ok rfl)), S768.hold, l730⟩

set_option maxHeartbeats 4000000 in
theorem W_spec_l01Read (fu : Nat) (H : AHeap) (a0 : ByteArray) (r0 : Int) (r1 : List (List Int)) (r2 : Bool) (hd : D_spec_l01Read fu a0 = some (r0, r1, r2)) : ∃ v G', ACall Tryd.prog 49 [.string a0] H v G' ∧ ∃ (p_r1 : Option Addr) (c_r1 : Nat), (v = .tuple #[.agg [.int .i64 r0, .slice p_r1 r1.length c_r1].toArray, .bool r2]) ∧ St [] H G' [oseg p_r1 (ints r1.flatten)] ∧ Sb p_r1 r1.length c_r1 14 ∧ All 14 r1 := by
  refine ACall.bodyX (args := [.string a0]) (N := 54) [(0, .string a0)] (fun v G' => ∃ (p_r1 : Option Addr) (c_r1 : Nat), (v = .tuple #[.agg [.int .i64 r0, .slice p_r1 r1.length c_r1].toArray, .bool r2]) ∧ St [] H G' [oseg p_r1 (ints r1.flatten)] ∧ Sb p_r1 r1.length c_r1 14 ∧ All 14 r1) Tryd.func49 rfl rfl rfl rfl ?_
  unfold D_spec_l01Read at hd
  have S0 : St [] H H [] := St.nil H
  refine AX.seq ?_
  refine AX.region ?_
  obtain ⟨G100, i101, hii101, hHG100, S102⟩ := S0.new (AObj.row false ([.int .i64 0, .slice none 0 0]))
  refine AO.c rfl (s_alloc (i := i101) (cs := [.int .i64 0, .slice none 0 0]) Tryd.zeroValue39 rfl rfl hii101 hHG100) ?_
  refine AO.p rfl (p_assign rfl) ?_
  refine AO.nil ?_
  refine AX.seq ?_
  refine AX.region ?_
  refine AO.p rfl (p_move rfl) ?_
  obtain ⟨ss104, h105, hd106⟩ := bnd_some hd
  obtain ⟨_, G112, hc111, p107, c108, rfl, S113, B110⟩ := W_spec_l01Split fu G100 a0 58 ss104 h105
  have S114 := S102.call S113
  refine AO.c rfl (o_call (vs := [.string a0, .int .u8 58]) rfl Tryd.call40 hc111) ?_
  refine AO.p rfl (p_assign rfl) ?_
  refine AO.nil ?_
  refine AX.seq ?_
  refine AX.seq ?_
  refine AX.region ?_
  refine AO.p rfl (p_move rfl) ?_
  refine AO.p rfl (p_len_slice rfl Tryd.underlying63) ?_
  refine AO.p rfl (p_neq rfl rfl) ?_
  refine AO.nil ?_
  refine AX.cond rfl (fun c115 => ?_) (fun c115 => ?_)
  · have hd116 := bif_t c115 hd106
    refine AX.seq ?_
    refine AX.region ?_
    refine AO.p rfl (p_build2 (vs := []) (cs := [.int .i64 0, .slice none 0 0]) Tryd.underlying39 rfl rfl rfl Tryd.sizeOf2 Tryd.sizeOf37 Tryd.zeroValue39 rfl rfl rfl rfl rfl) ?_
    obtain ⟨G117, hHG117, S118⟩ := S114.set (k := 1) (i := i101) rfl (AObj.row false ([.int .i64 0, .slice none 0 0]))
    refine AO.s (s_storeAll (vs := [.int .i64 0, .slice none 0 0]) Tryd.sizeOf39 rfl rfl (ones_list rfl) (S114.get (k := 1) rfl) rfl rfl hHG117) ?_
    refine AO.p rfl (p_assign rfl) ?_
    refine AO.nil ?_
    refine AX.ret ?_
    obtain ⟨rfl, z119⟩ := Prod.mk.inj (some_inj hd116)
    obtain ⟨rfl, rfl⟩ := Prod.mk.inj z119
    have S121 : St [] H G117 (oseg none (ints (List.flatten [])) :: _) := S118.nilseg 0
    have S122 := S121.keep 1
    exact ⟨.inr rfl, _, res2 rfl (rv_cell (vs := [.int .i64 0, .slice none 0 0]) rfl Tryd.isAgg39 Tryd.sizeOf39 rfl (row_cells (S118.get (k := 1) rfl))) (rv_tmp rfl), none, 0, rfl, S122, Sb.nil, all_nil⟩
  · have hd123 := bif_f c115 hd106
    refine AX.skip ?_
    refine AX.seq ?_
    refine DR.startS [false, false, false, true, false, false, false, false, false, true, false, true, false] mix (by kernel_rfl) (fun hst => ?_)
    refine DR.p rfl rfl (p_move rfl) ?_
    obtain ⟨k124, hd125⟩ := chk_some hd123
    refine DR.p rfl rfl (s_indexV (q := 0) Tryd.underlying63 Tryd.sizeOf9 rfl (B110.at (inR_pos k124)) rfl k124 rfl) ?_
    refine DR.r rfl rfl (r_load rfl Tryd.isAgg9) (one_read (row_cell (S114.oat (k := 0) rfl (B110.at (inR_pos k124))) (sts_get (lt_len rfl (inR_lt k124)))) (.of_flat0 rfl)) ?_
    obtain ⟨x126, h127, hd128⟩ := bnd_some hd125
    refine DR.w rfl rfl (o_call (vs := [.string (rds ss104 0)]) rfl Tryd.call41 (W_spec_l01Number fu G112 (rds ss104 0) x126 h127)) (Nat.le_refl _) ?_
    obtain ⟨G130, i131, hii131, hHG130, S132⟩ := S114.new (AObj.row false (ints [].flatten))
    refine DR.a rfl rfl hii131 hHG130 (a_build0 Tryd.underlying37 Tryd.sizeOf76) ?_
    refine DR.p rfl rfl (p_build2 (vs := [(0, .int .i64 x126), (1, .slice (some (Addr.mk i131 0 none)) 0 0)]) (cs := [.int .i64 x126, .slice (some (Addr.mk i131 0 none)) 0 0]) Tryd.underlying39 rfl rfl rfl Tryd.sizeOf2 Tryd.sizeOf37 Tryd.zeroValue39 rfl rfl rfl rfl rfl) ?_
    refine DR.p rfl rfl (p_move rfl) ?_
    obtain ⟨k134, hd135⟩ := chk_some hd128
    refine DR.p rfl rfl (s_indexV (q := 1) Tryd.underlying63 Tryd.sizeOf9 rfl (B110.at (inR_pos k134)) rfl k134 rfl) ?_
    refine DR.r rfl rfl (r_load rfl Tryd.isAgg9) (one_read (row_cell (S132.oat (k := 1) rfl (B110.at (inR_pos k134))) (sts_get (lt_len rfl (inR_lt k134)))) (.of_flat0 rfl)) ?_
    obtain ⟨ss136, h137, hd138⟩ := bnd_some hd135
    obtain ⟨_, G144, hc143, p139, c140, rfl, S145, B142⟩ := W_spec_l01Split fu G130 (rds ss104 1) 59 ss136 h137
    have S146 := S132.call S145
    refine DR.w rfl rfl (o_call (vs := [.string (rds ss104 1), .int .u8 59]) rfl Tryd.call40 hc143) (S145.len) ?_
    obtain ⟨G147, i148, hii148, hHG147, S149⟩ := S146.new (AObj.row false ([.int .i64 0, .slice none 0 0]))
    refine DR.a rfl rfl hii148 hHG147 (a_alloc Tryd.zeroValue39 (flat_list rfl)) ?_
    obtain ⟨G151, hHG151, S152⟩ := S149.set (k := 0) (i := i148) rfl (AObj.row false ([.int .i64 x126, .slice (some (Addr.mk i131 0 none)) 0 0]))
    refine DR.s rfl (s_storeAll (vs := [.int .i64 x126, .slice (some (Addr.mk i131 0 none)) 0 0]) Tryd.sizeOf39 rfl rfl (ones_list rfl) (S149.get (k := 0) rfl) rfl rfl hHG151) (set_le hHG151) ?_
    refine DR.p rfl rfl (p_assign rfl) ?_
    refine DR.nil 13 [(4, 3), (4, 9), (8, 3), (10, 3), (10, 9)] hst (by kernel_rfl) ⟨(fun h => absurd h (by decide)), (fun _ => by rw [hii131]; exact (S146.get (k := 1) rfl).trans (S132.get (k := 0) rfl).symm), (rd1 (fun _ => rfl)), (fun h => absurd h (by decide)), (fun h => absurd h (by decide)), trivial⟩ ?_
    refine AX.seq ?_
    refine AX.seq ?_
    refine AX.region ?_
    refine AO.p rfl (p_assign rfl) ?_
    refine AO.nil ?_
    obtain ⟨r311, hl312, hd313⟩ := bnd_some hd138
    refine AX.cutS (fun t' H' => ∃ (rs310 : List (List Int)) (p308 : Option Addr) (c309 : Nat), .inl rs310 = r311 ∧ St [] H H' [[(i101, AObj.row false ([.int .i64 0, .slice none 0 0]))], [(i148, AObj.row false ([.int .i64 x126, .slice p308 rs310.length c309]))], oseg p308 (ints rs310.flatten)] ∧ All 14 rs310 ∧ Sb p308 (rs310.length) c309 14 ∧ Am.Sub [(2, .pointer (some ⟨i101, 0, none⟩)), (5, .pointer (some ⟨i148, 0, none⟩))] t') ?_ ?_
    · refine AX.block ?_
      refine AX.loopF (fun s' t' H' => ∃ (rs258 : List (List Int)) (x260 : Int) (p256 : Option Addr) (c257 : Nat), (rs258, x260) = s' ∧ St [] H H' [[(i101, AObj.row false ([.int .i64 0, .slice none 0 0]))], [(i148, AObj.row false ([.int .i64 x126, .slice p256 rs258.length c257]))], oseg p256 (ints rs258.flatten), oseg p139 (sts ss136)] ∧ All 14 rs258 ∧ Sb p256 (rs258.length) c257 14 ∧ Am.Sub [(2, .pointer (some ⟨i101, 0, none⟩)), (5, .pointer (some ⟨i148, 0, none⟩)), (6, .slice p139 ss136.length c140), (7, .int .i64 x260)] t') hl312 ?_ ?_
      · skip
        have S314 := S152.front 1 rfl
        have S315 := S314.front 2 rfl
        have S316 := S315.front 2 rfl
        have S317 := S316.front 4 rfl
        have S318 := S317.keep 4
        exact ⟨[], 0, (some (Addr.mk i131 0 none)), 0, rfl, S318, all_nil, (Sb.lit (n := 0) (by decide)), Sub.cons' rfl rfl (Sub.cons' rfl rfl (Sub.cons' rfl rfl (Sub.cons' rfl rfl (Sub.nil _))))⟩
      · rintro n319 _ t' G323 ⟨rs258, x260, p256, c257, rfl, S322, ars258, Bo255, hsub324⟩ o325 ho320 hk321
        refine AX.sub hsub324 ?_
        unfold D_spec_l01Read_s0 at ho320
        refine AX.seq ?_
        refine AX.seq ?_
        refine AX.region ?_
        refine AO.p rfl (p_move rfl) ?_
        refine AO.p rfl (p_move rfl) ?_
        refine AO.p rfl (p_len_slice rfl Tryd.underlying63) ?_
        refine AO.p rfl (p_lss rfl rfl) ?_
        refine AO.nil ?_
        refine AX.cond rfl (fun c326 => ?_) (fun c326 => ?_)
        · have hd327 := bif_t c326 ho320
          refine AX.skip ?_
          refine AX.seq ?_
          refine AX.block ?_
          refine AX.seq ?_
          refine DR.startS [false, false, false, false, false, false, true, false, false, false, false, true, false] mix (by kernel_rfl) (fun hst => ?_)
          refine DR.p rfl rfl (s_fieldAddr Tryd.underlying39 rfl Tryd.sizeOf2 (by decide) rfl rfl) ?_
          refine DR.r rfl rfl (r_load rfl Tryd.isAgg2) (one_read (row_cell (S322.get (k := 1) rfl) rfl) (.of_flat0 rfl)) ?_
          refine DR.p rfl rfl (p_move rfl) ?_
          refine DR.p rfl rfl (p_move rfl) ?_
          obtain ⟨k328, hd329⟩ := chk_some hd327
          refine DR.p rfl rfl (s_indexV (q := x260.toNat) Tryd.underlying63 Tryd.sizeOf9 rfl (B142.at (inR_pos k328)) rfl k328 (z1 _)) ?_
          refine DR.r rfl rfl (r_load rfl Tryd.isAgg9) (one_read (row_cell (S322.oat (k := 3) rfl (B142.at (inR_pos k328))) (sts_get (lt_len rfl (inR_lt k328)))) (.of_flat0 rfl)) ?_
          obtain ⟨⟨xs330, b331⟩, h332, hd333⟩ := bnd_some hd329
          obtain ⟨hc335, l336⟩ := W_spec_l01ReadRound fu G323 x126 (rds ss136 x260.toNat) xs330 b331 h332
          refine DR.w rfl rfl (o_call (vs := [.int .i64 x126, .string (rds ss136 x260.toNat)]) rfl Tryd.call78 hc335) (Nat.le_refl _) ?_
          refine DR.p rfl rfl (p_move rfl) ?_
          refine DR.p rfl rfl (p_extract rfl rfl) ?_
          refine DR.p rfl rfl (p_extract rfl rfl) ?_
          obtain ⟨G337, i338, hii338, hHG337, S339⟩ := S322.new (AObj.row false (ints (List.replicate 14 0)))
          refine DR.a rfl rfl hii338 hHG337 (a_alloc Tryd.zeroValue76 (flat_list rfl)) ?_
          obtain ⟨G341, hHG341, S342⟩ := S339.set (k := 0) (i := i338) rfl (AObj.row false (ints xs330))
          refine DR.s rfl (s_storeAll (vs := ints xs330) Tryd.sizeOf76 rfl rfl ints_one (S339.get (k := 0) rfl) (ints_len l336) (ints_len len_rep) hHG341) (set_le hHG341) ?_
          refine DR.p rfl rfl (p_assign rfl) ?_
          refine DR.nil 13 [(10, 6)] hst (by kernel_rfl) ⟨(fun h => absurd h (by decide)), trivial⟩ ?_
          refine AX.seq ?_
          refine AX.seq ?_
          refine AX.region ?_
          refine AO.p rfl (p_move rfl) ?_
          refine AO.p rfl (p_not rfl) ?_
          refine AO.nil ?_
          refine AX.cond rfl (fun c343 => ?_) (fun c343 => ?_)
          · have hd344 := bif_t c343 hd333
            refine AX.seq ?_
            refine AX.region ?_
            refine AO.p rfl (p_build2 (vs := []) (cs := [.int .i64 0, .slice none 0 0]) Tryd.underlying39 rfl rfl rfl Tryd.sizeOf2 Tryd.sizeOf37 Tryd.zeroValue39 rfl rfl rfl rfl rfl) ?_
            obtain ⟨G345, hHG345, S346⟩ := S342.set (k := 1) (i := i101) rfl (AObj.row false ([.int .i64 0, .slice none 0 0]))
            refine AO.s (s_storeAll (vs := [.int .i64 0, .slice none 0 0]) Tryd.sizeOf39 rfl rfl (ones_list rfl) (S342.get (k := 1) rfl) rfl rfl hHG345) ?_
            refine AO.p rfl (p_assign rfl) ?_
            refine AO.nil ?_
            refine AX.ret ?_
            obtain rfl := some_inj hd344
            have z347 : _ = r311 := hk321
            subst z347
            obtain ⟨rfl, z348⟩ := Prod.mk.inj (some_inj hd313)
            obtain ⟨rfl, rfl⟩ := Prod.mk.inj z348
            have S350 : St [] H G345 (oseg none (ints (List.flatten [])) :: _) := S346.nilseg 0
            have S351 := S350.keep 1
            exact ⟨.inr rfl, _, res2 rfl (rv_cell (vs := [.int .i64 0, .slice none 0 0]) rfl Tryd.isAgg39 Tryd.sizeOf39 rfl (row_cells (S346.get (k := 1) rfl))) (rv_tmp rfl), none, 0, rfl, S351, Sb.nil, all_nil⟩
          · have hd352 := bif_f c343 hd333
            refine AX.skip ?_
            refine AX.region ?_
            refine AO.p rfl (s_fieldAddr Tryd.underlying39 rfl Tryd.sizeOf37 (by decide) rfl rfl) ?_
            refine AO.c rfl (s_load Tryd.isAgg37 rfl (row_cell (S342.get (k := 2) rfl) rfl)) ?_
            refine AO.c rfl (s_loadN (vs := ints xs330) Tryd.isAgg76 Tryd.sizeOf76 rfl (ints_len l336) (row_cells (S342.get (k := 0) rfl))) ?_
            obtain ⟨G353, i354, hii354, hHG353, S355⟩ := S342.new (AObj.row false (ints [xs330].flatten))
            refine AO.c rfl (s_build1 (i := i354) (r := xs330) (zr := List.replicate 14 0) Tryd.underlying37 Tryd.sizeOf76 Tryd.zeroValue76 rfl rfl (by decide) (by decide) rfl l336 hii354 hHG353) ?_
            obtain ⟨k357, hd358⟩ := chk_some hd352
            obtain ⟨p359, c360, G361, haG361, S362, Bp359⟩ := S355.app (k := 4) rfl Bo255 (ints [xs330].flatten) 1 (flat_len1 (all_one l336) rfl)
            have S363 := S362.cellsEq (k := 4) (us' := ints (rs258 ++ [xs330]).flatten) (intsf_app _ _) rfl
            have BS363 : Sb p359 ((rs258 ++ [xs330]).length) c360 14 := (show rs258.length + 1 = (rs258 ++ [xs330]).length from len_app (a := rs258) (b := [xs330]) rfl rfl) ▸ Bp359
            have S364 := S363.drop 0 rfl
            refine AO.c rfl (s_app (by_ := 112) (us := ints rs258.flatten) (vs := ints [xs330].flatten) Tryd.underlying37 Tryd.underlying37 Tryd.typeInfo76 Tryd.sizeOf76 Tryd.zeroValue76 rfl rfl rfl rfl rfl rfl rfl (S355.buf (k := 4) rfl Bo255 (flat_len1 ars258 rfl)) (S355.oview (k := 0) rfl (Sb.lit (n := 1) (by decide)) (flat_len1 (all_one l336) rfl)) (flat_len1 (all_one l336) rfl) ints_one k357 haG361 (show rs258.length + 1 = (rs258 ++ [xs330]).length from len_app (a := rs258) (b := [xs330]) rfl rfl)) ?_
            refine AO.p rfl (s_fieldAddr Tryd.underlying39 rfl Tryd.sizeOf37 (by decide) rfl rfl) ?_
            obtain ⟨G365, hHG365, S366⟩ := S364.set (k := 2) (i := i148) rfl (AObj.row false ([.int .i64 x126, .slice p359 ((rs258 ++ [xs330]).length) c360]))
            refine AO.s (s_store Tryd.sizeOf37 rfl rfl rfl (S364.get (k := 2) rfl) (Nat.le_of_ble_eq_true rfl) hHG365) ?_
            refine AO.nil ?_
            refine AX.region ?_
            refine AO.p rfl (p_move rfl) ?_
            obtain ⟨k367, hd368⟩ := chk_some hd358
            refine AO.p rfl (p_addE rfl rfl k367) ?_
            refine AO.p rfl (p_assign rfl) ?_
            refine AO.nil ?_
            obtain rfl := some_inj hd368
            have S370 := S366.front 4 rfl
            have S371 := S370.front 4 rfl
            have S372 := S371.front 4 rfl
            have S373 := S372.front 4 rfl
            have S374 := S373.keep 4
            exact ⟨((rs258 ++ [xs330]), x260 + 1), hk321, (rs258 ++ [xs330]), (x260 + 1), p359, c360, rfl, S374, (all_app ars258 (all_one l336)), BS363, Sub.cons' rfl rfl (Sub.cons' rfl rfl (Sub.cons' rfl rfl (Sub.cons' rfl rfl (Sub.nil _))))⟩
        · have hd375 := bif_f c326 ho320
          refine AX.exit ?_
          obtain rfl := some_inj hd375
          have S376 := S322.front 2 rfl
          have S377 := S376.front 2 rfl
          have S378 := S377.front 2 rfl
          have S379 := S378.keep 3
          exact ⟨rs258, p256, c257, hk321, S379, ars258, Bo255, Sub.cons' rfl rfl (Sub.cons' rfl rfl (Sub.nil _))⟩
    · rintro t' G381 ⟨rs310, p308, c309, rfl, S380, ars310, Bo307, hsub382⟩
      refine ⟨_, hsub382, ?_⟩
      refine AX.seq ?_
      refine DR.startS [false, false, true, true, false] mix (by kernel_rfl) (fun hst => ?_)
      refine DR.r rfl rfl (r_loadN (vs := [.int .i64 x126, .slice p308 rs310.length c309]) rfl Tryd.isAgg39 Tryd.sizeOf39 rfl) (many_row (row_cells (S380.get (k := 1) rfl)) (bel_cons (.of_flat0 rfl) (bel_cons (S380.oin (k := 2) rfl Bo307).bel bel_nil))) ?_
      refine DR.r rfl rfl (r_loadN (vs := [.int .i64 x126, .slice p308 rs310.length c309]) rfl Tryd.isAgg39 Tryd.sizeOf39 rfl) (many_row (row_cells (S380.get (k := 1) rfl)) (bel_cons (.of_flat0 rfl) (bel_cons (S380.oin (k := 2) rfl Bo307).bel bel_nil))) ?_
      obtain ⟨b383, h384, hd385⟩ := bnd_some hd313
      refine DR.w rfl rfl (o_call (vs := [.agg [.int .i64 x126, .slice p308 rs310.length c309].toArray]) rfl Tryd.call33 (W_spec_l01Is fu G381 x126 p308 c309 rs310 ars310 (S380.oview (k := 2) rfl Bo307 (flat_len1 ars310 rfl)) b383 h384)) (Nat.le_refl _) ?_
      obtain ⟨G387, hHG387, S388⟩ := S380.set (k := 0) (i := i101) rfl (AObj.row false ([.int .i64 x126, .slice p308 rs310.length c309]))
      refine DR.s rfl (s_storeAll (vs := [.int .i64 x126, .slice p308 rs310.length c309]) Tryd.sizeOf39 rfl rfl (ones_list rfl) (S380.get (k := 0) rfl) rfl rfl hHG387) (set_le hHG387) ?_
      refine DR.p rfl rfl (p_assign rfl) ?_
      refine DR.nil 5 [(0, 2)] hst (by kernel_rfl) ⟨(rdN (fun _ => rfl)), trivial⟩ ?_
      refine AX.ret ?_
      obtain ⟨rfl, z389⟩ := Prod.mk.inj (some_inj hd385)
      obtain ⟨rfl, rfl⟩ := Prod.mk.inj z389
      have S391 := S388.front 2 rfl
      have S392 := S391.keep 1
      exact ⟨.inr rfl, _, res2 rfl (rv_cell (vs := [.int .i64 x126, .slice p308 rs310.length c309]) rfl Tryd.isAgg39 Tryd.sizeOf39 rfl (row_cells (S388.get (k := 0) rfl))) (rv_tmp rfl), p308, c309, rfl, S392, Bo307, ars310⟩

set_option maxHeartbeats 4000000 in
theorem W_spec_ParseSchedule (fu : Nat) (H : AHeap) (a0 : ByteArray) (r0 : Int) (r1 : List (List Int)) (r2 : Int) (hd : D_spec_ParseSchedule fu a0 = some (r0, r1, r2)) : ∃ v G', ACall Tryd.prog 21 [.string a0] H v G' ∧ ∃ (p_r1 : Option Addr) (c_r1 : Nat), (v = .tuple #[.agg [.int .i64 r0, .slice p_r1 r1.length c_r1].toArray, .int .i64 r2]) ∧ St [] H G' [oseg p_r1 (ints r1.flatten)] ∧ Sb p_r1 r1.length c_r1 14 ∧ All 14 r1 := by
  refine ACall.bodyX (args := [.string a0]) (N := 15) [(0, .string a0)] (fun v G' => ∃ (p_r1 : Option Addr) (c_r1 : Nat), (v = .tuple #[.agg [.int .i64 r0, .slice p_r1 r1.length c_r1].toArray, .int .i64 r2]) ∧ St [] H G' [oseg p_r1 (ints r1.flatten)] ∧ Sb p_r1 r1.length c_r1 14 ∧ All 14 r1) Tryd.func21 rfl rfl rfl rfl ?_
  unfold D_spec_ParseSchedule at hd
  have S0 : St [] H H [] := St.nil H
  refine AX.seq ?_
  refine AX.region ?_
  obtain ⟨G100, i101, hii101, hHG100, S102⟩ := S0.new (AObj.row false ([.int .i64 0, .slice none 0 0]))
  refine AO.c rfl (s_alloc (i := i101) (cs := [.int .i64 0, .slice none 0 0]) Tryd.zeroValue39 rfl rfl hii101 hHG100) ?_
  refine AO.p rfl (p_assign rfl) ?_
  refine AO.nil ?_
  refine AX.seq ?_
  refine AX.region ?_
  refine AO.p rfl (p_move rfl) ?_
  obtain ⟨⟨x104, rs105, b106⟩, h107, hd108⟩ := bnd_some hd
  obtain ⟨_, G115, hc114, p109, c110, rfl, S116, B112, a113⟩ := W_spec_l01Read fu G100 a0 x104 rs105 b106 h107
  have S117 := S102.call S116
  refine AO.c rfl (o_call (vs := [.string a0]) rfl Tryd.call49 hc114) ?_
  refine AO.p rfl (p_move rfl) ?_
  refine AO.p rfl (p_extract rfl rfl) ?_
  refine AO.p rfl (p_extract rfl rfl) ?_
  obtain ⟨G118, i119, hii119, hHG118, S120⟩ := S117.new (AObj.row false ([.int .i64 0, .slice none 0 0]))
  refine AO.c rfl (s_alloc (i := i119) (cs := [.int .i64 0, .slice none 0 0]) Tryd.zeroValue39 rfl rfl hii119 hHG118) ?_
  obtain ⟨G122, hHG122, S123⟩ := S120.set (k := 0) (i := i119) rfl (AObj.row false ([.int .i64 x104, .slice p109 rs105.length c110]))
  refine AO.s (s_storeAll (vs := [.int .i64 x104, .slice p109 rs105.length c110]) Tryd.sizeOf39 rfl rfl (ones_list rfl) (S120.get (k := 0) rfl) rfl rfl hHG122) ?_
  refine AO.p rfl (p_assign rfl) ?_
  refine AO.nil ?_
  refine AX.seq ?_
  refine AX.seq ?_
  refine AX.region ?_
  refine AO.p rfl (p_move rfl) ?_
  refine AO.p rfl (p_not rfl) ?_
  refine AO.nil ?_
  refine AX.cond rfl (fun c124 => ?_) (fun c124 => ?_)
  · have hd125 := bif_t c124 hd108
    refine AX.seq ?_
    refine AX.region ?_
    refine AO.p rfl (p_build2 (vs := []) (cs := [.int .i64 0, .slice none 0 0]) Tryd.underlying39 rfl rfl rfl Tryd.sizeOf2 Tryd.sizeOf37 Tryd.zeroValue39 rfl rfl rfl rfl rfl) ?_
    obtain ⟨G126, hHG126, S127⟩ := S123.set (k := 2) (i := i101) rfl (AObj.row false ([.int .i64 0, .slice none 0 0]))
    refine AO.s (s_storeAll (vs := [.int .i64 0, .slice none 0 0]) Tryd.sizeOf39 rfl rfl (ones_list rfl) (S123.get (k := 2) rfl) rfl rfl hHG126) ?_
    refine AO.p rfl (p_assign rfl) ?_
    refine AO.nil ?_
    refine AX.ret ?_
    obtain ⟨rfl, z128⟩ := Prod.mk.inj (some_inj hd125)
    obtain ⟨rfl, rfl⟩ := Prod.mk.inj z128
    have S130 : St [] H G126 (oseg none (ints (List.flatten [])) :: _) := S127.nilseg 0
    have S131 := S130.keep 1
    exact ⟨.inr rfl, _, res2 rfl (rv_cell (vs := [.int .i64 0, .slice none 0 0]) rfl Tryd.isAgg39 Tryd.sizeOf39 rfl (row_cells (S127.get (k := 2) rfl))) (rv_tmp rfl), none, 0, rfl, S131, Sb.nil, all_nil⟩
  · have hd132 := bif_f c124 hd108
    refine AX.skip ?_
    refine AX.seq ?_
    refine AX.region ?_
    refine AO.c rfl (s_loadN (vs := [.int .i64 x104, .slice p109 rs105.length c110]) Tryd.isAgg39 Tryd.sizeOf39 rfl rfl (row_cells (S123.get (k := 0) rfl))) ?_
    obtain ⟨G133, hHG133, S134⟩ := S123.set (k := 2) (i := i101) rfl (AObj.row false ([.int .i64 x104, .slice p109 rs105.length c110]))
    refine AO.s (s_storeAll (vs := [.int .i64 x104, .slice p109 rs105.length c110]) Tryd.sizeOf39 rfl rfl (ones_list rfl) (S123.get (k := 2) rfl) rfl rfl hHG133) ?_
    refine AO.p rfl (p_assign rfl) ?_
    refine AO.nil ?_
    refine AX.ret ?_
    obtain ⟨rfl, z135⟩ := Prod.mk.inj (some_inj hd132)
    obtain ⟨rfl, rfl⟩ := Prod.mk.inj z135
    have S137 := S134.front 1 rfl
    have S138 := S137.keep 1
    exact ⟨.inr rfl, _, res2 rfl (rv_cell (vs := [.int .i64 x104, .slice p109 rs105.length c110]) rfl Tryd.isAgg39 Tryd.sizeOf39 rfl (row_cells (S134.get (k := 2) rfl))) (rv_tmp rfl), p109, c110, rfl, S138, B112, a113⟩

set_option maxHeartbeats 4000000 in
theorem W_impl_ParseSchedule (fu : Nat) (H : AHeap) (a0 : ByteArray) (r0 : Int) (r1 : List (List Int)) (r2 : Int) (hd : D_impl_ParseSchedule fu a0 = some (r0, r1, r2)) : ∃ v G', ACall Tryd.prog 22 [.string a0] H v G' ∧ ∃ (p_r1 : Option Addr) (c_r1 : Nat), (v = .tuple #[.agg [.int .i64 r0, .slice p_r1 r1.length c_r1].toArray, .int .i64 r2]) ∧ St [] H G' [oseg p_r1 (ints r1.flatten)] ∧ Sb p_r1 r1.length c_r1 14 ∧ All 14 r1 := by
  refine ACall.bodyX (args := [.string a0]) (N := 87) [(0, .string a0)] (fun v G' => ∃ (p_r1 : Option Addr) (c_r1 : Nat), (v = .tuple #[.agg [.int .i64 r0, .slice p_r1 r1.length c_r1].toArray, .int .i64 r2]) ∧ St [] H G' [oseg p_r1 (ints r1.flatten)] ∧ Sb p_r1 r1.length c_r1 14 ∧ All 14 r1) Tryd.func22 rfl rfl rfl rfl ?_
  unfold D_impl_ParseSchedule at hd
  have S0 : St [] H H [] := St.nil H
  refine AX.seq ?_
  refine AX.region ?_
  obtain ⟨G100, i101, hii101, hHG100, S102⟩ := S0.new (AObj.row false ([.int .i64 0, .slice none 0 0]))
  refine AO.c rfl (s_alloc (i := i101) (cs := [.int .i64 0, .slice none 0 0]) Tryd.zeroValue39 rfl rfl hii101 hHG100) ?_
  refine AO.p rfl (p_assign rfl) ?_
  refine AO.nil ?_
  refine AX.seq ?_
  refine AX.region ?_
  refine AO.p rfl (p_move rfl) ?_
  obtain ⟨⟨s104, s105, b106⟩, h107, hd108⟩ := bnd_some hd
  refine AO.c rfl (o_call (vs := [.string a0, .string (⟨#[58]⟩ : ByteArray)]) rfl Tryd.call43 (W_strings_Cut fu G100 a0 (⟨#[58]⟩ : ByteArray) s104 s105 b106 h107)) ?_
  refine AO.p rfl (p_move rfl) ?_
  refine AO.p rfl (p_extract rfl rfl) ?_
  refine AO.p rfl (p_extract rfl rfl) ?_
  refine AO.p rfl (p_extract rfl rfl) ?_
  refine AO.p rfl (p_assign rfl) ?_
  refine AO.p rfl (p_assign rfl) ?_
  refine AO.p rfl (p_assign rfl) ?_
  refine AO.nil ?_
  refine AX.seq ?_
  refine AX.region ?_
  refine AO.p rfl (p_move rfl) ?_
  obtain ⟨x110, h111, hd112⟩ := bnd_some hd108
  refine AO.c rfl (o_call (vs := [.string s104]) rfl Tryd.call44 (W_impl_readNumber fu G100 s104 x110 h111)) ?_
  refine AO.p rfl (p_build2 (vs := [(0, .int .i64 x110)]) (cs := [.int .i64 x110, .slice none 0 0]) Tryd.underlying39 rfl rfl rfl Tryd.sizeOf2 Tryd.sizeOf37 Tryd.zeroValue39 rfl rfl rfl rfl rfl) ?_
  obtain ⟨G114, i115, hii115, hHG114, S116⟩ := S102.new (AObj.row false ([.int .i64 0, .slice none 0 0]))
  refine AO.c rfl (s_alloc (i := i115) (cs := [.int .i64 0, .slice none 0 0]) Tryd.zeroValue39 rfl rfl hii115 hHG114) ?_
  obtain ⟨G118, hHG118, S119⟩ := S116.set (k := 0) (i := i115) rfl (AObj.row false ([.int .i64 x110, .slice none 0 0]))
  refine AO.s (s_storeAll (vs := [.int .i64 x110, .slice none 0 0]) Tryd.sizeOf39 rfl rfl (ones_list rfl) (S116.get (k := 0) rfl) rfl rfl hHG118) ?_
  refine AO.nil ?_
  refine AX.seq ?_
  refine AX.seq ?_
  refine AX.region ?_
  refine AO.p rfl (p_move rfl) ?_
  obtain ⟨ss120, h121, hd122⟩ := bnd_some hd112
  obtain ⟨_, G128, hc127, p123, c124, rfl, S129, B126⟩ := W_strings_Split fu G118 s105 (⟨#[59]⟩ : ByteArray) ss120 h121
  have S130 := S119.call S129
  refine AO.c rfl (o_call (vs := [.string s105, .string (⟨#[59]⟩ : ByteArray)]) rfl Tryd.call45 hc127) ?_
  refine AO.p rfl (p_len_slice rfl Tryd.underlying63) ?_
  refine AO.p rfl (p_move rfl) ?_
  refine AO.nil ?_
  obtain ⟨r1134, hl1135, hd1136⟩ := bnd_some hd122
  refine AX.cutS (fun t' H' => ∃ (rs1133 : List (List Int)) (p1131 : Option Addr) (c1132 : Nat), .inl rs1133 = r1134 ∧ St [] H H' [[(i101, AObj.row false ([.int .i64 0, .slice none 0 0]))], [(i115, AObj.row false ([.int .i64 x110, .slice p1131 rs1133.length c1132]))], oseg p1131 (ints rs1133.flatten)] ∧ All 14 rs1133 ∧ Sb p1131 (rs1133.length) c1132 14 ∧ Am.Sub [(0, .string a0), (2, .pointer (some ⟨i101, 0, none⟩)), (7, .pointer (some ⟨i115, 0, none⟩))] t') ?_ ?_
  · refine AX.block ?_
    refine AX.loopF (fun s' t' H' => ∃ (rs797 : List (List Int)) (x799 : Int) (p795 : Option Addr) (c796 : Nat), (rs797, x799) = s' ∧ St [] H H' [[(i101, AObj.row false ([.int .i64 0, .slice none 0 0]))], [(i115, AObj.row false ([.int .i64 x110, .slice p795 rs797.length c796]))], oseg p795 (ints rs797.flatten), oseg p123 (sts ss120)] ∧ All 14 rs797 ∧ Sb p795 (rs797.length) c796 14 ∧ Am.Sub [(0, .string a0), (2, .pointer (some ⟨i101, 0, none⟩)), (7, .pointer (some ⟨i115, 0, none⟩)), (28, .slice p123 ss120.length c124), (29, .int .i64 ((ss120.length : Nat) : Int)), (30, .int .i64 x799)] t') hl1135 ?_ ?_
    · skip
      have S1137 := S130.front 0 rfl
      have S1138 : St [] H G128 (oseg none (ints (List.flatten [])) :: _) := S1137.nilseg 0
      have S1139 := S1138.front 2 rfl
      have S1140 := S1139.front 3 rfl
      exact ⟨[], 0, none, 0, rfl, S1140, all_nil, Sb.nil, Sub.cons' rfl rfl (Sub.cons' rfl rfl (Sub.cons' rfl rfl (Sub.cons' rfl rfl (Sub.cons' rfl rfl (Sub.cons' rfl rfl (Sub.nil _))))))⟩
    · rintro n1141 _ t' G1145 ⟨rs797, x799, p795, c796, rfl, S1144, ars797, Bo794, hsub1146⟩ o1147 ho1142 hk1143
      refine AX.sub hsub1146 ?_
      unfold D_impl_ParseSchedule_s0 at ho1142
      refine AX.seq ?_
      refine AX.region ?_
      refine AO.p rfl (p_lss rfl rfl) ?_
      refine AO.nil ?_
      refine AX.seq ?_
      refine AX.cond rfl (fun c1148 => ?_) (fun c1148 => ?_)
      · have hd1149 := bif_t c1148 ho1142
        refine AX.skip ?_
        refine AX.seq ?_
        refine AX.block ?_
        refine AX.seq ?_
        refine AX.region ?_
        obtain ⟨k1150, hd1151⟩ := chk_some hd1149
        refine AO.p rfl (s_indexV (q := x799.toNat) Tryd.underlying63 Tryd.sizeOf9 rfl (B126.at (inR_pos k1150)) rfl k1150 (z1 _)) ?_
        refine AO.c rfl (s_load Tryd.isAgg9 rfl (row_cell (S1144.oat (k := 3) rfl (B126.at (inR_pos k1150))) (sts_get (lt_len rfl (inR_lt k1150))))) ?_
        refine AO.p rfl (p_assign rfl) ?_
        refine AO.nil ?_
        refine AX.seq ?_
        refine AX.region ?_
        obtain ⟨G1152, i1153, hii1153, hHG1152, S1154⟩ := S1144.new (AObj.row false (tcells []))
        have S1154t := S1154.nilseg 1
        refine AO.c rfl (s_build0 (i := i1153) Tryd.underlying22 Tryd.sizeOf66 hii1153 hHG1152) ?_
        refine AO.p rfl (p_assign rfl) ?_
        refine AO.nil ?_
        refine AX.seq ?_
        refine AX.seq ?_
        refine AX.region ?_
        refine AO.p rfl (p_move rfl) ?_
        obtain ⟨ss1156, h1157, hd1158⟩ := bnd_some hd1151
        obtain ⟨_, G1164, hc1163, p1159, c1160, rfl, S1165, B1162⟩ := W_strings_Split fu G1152 (rds ss120 x799.toNat) (⟨#[44]⟩ : ByteArray) ss1156 h1157
        have S1166 := S1154t.call S1165
        refine AO.c rfl (o_call (vs := [.string (rds ss120 x799.toNat), .string (⟨#[44]⟩ : ByteArray)]) rfl Tryd.call45 hc1163) ?_
        refine AO.p rfl (p_len_slice rfl Tryd.underlying63) ?_
        refine AO.p rfl (p_move rfl) ?_
        refine AO.nil ?_
        obtain ⟨r1348, hl1349, hd1350⟩ := bnd_some hd1158
        refine AX.cutS (fun t' H' => ∃ (rs1345 : List (List Int)) (p1343 : Option Addr) (c1344 : Nat) (T1346 : Tb), rs1345 = r1348 ∧ St [] H H' [[(i101, AObj.row false ([.int .i64 0, .slice none 0 0]))], [(i115, AObj.row false ([.int .i64 x110, .slice p795 rs797.length c796]))], oseg p795 (ints rs797.flatten), oseg p1343 (tcells T1346), tseg T1346, oseg p123 (sts ss120)] ∧ trows T1346 = rs1345 ∧ TSb T1346 ∧ Sb p1343 (rs1345.length) c1344 1 ∧ Am.Sub [(0, .string a0), (2, .pointer (some ⟨i101, 0, none⟩)), (7, .pointer (some ⟨i115, 0, none⟩)), (10, .slice p1343 rs1345.length c1344), (28, .slice p123 ss120.length c124), (29, .int .i64 ((ss120.length : Nat) : Int)), (30, .int .i64 x799)] t') ?_ ?_
        · refine AX.block ?_
          refine AX.loopF (fun s' t' H' => ∃ (rs1286 : List (List Int)) (x1290 : Int) (p1284 : Option Addr) (c1285 : Nat) (T1287 : Tb), (rs1286, x1290) = s' ∧ St [] H H' [[(i101, AObj.row false ([.int .i64 0, .slice none 0 0]))], [(i115, AObj.row false ([.int .i64 x110, .slice p795 rs797.length c796]))], oseg p795 (ints rs797.flatten), oseg p1284 (tcells T1287), tseg T1287, oseg p123 (sts ss120), oseg p1159 (sts ss1156)] ∧ trows T1287 = rs1286 ∧ TSb T1287 ∧ Sb p1284 (rs1286.length) c1285 1 ∧ Am.Sub [(0, .string a0), (2, .pointer (some ⟨i101, 0, none⟩)), (7, .pointer (some ⟨i115, 0, none⟩)), (9, .string (rds ss120 x799.toNat)), (10, .slice p1284 rs1286.length c1285), (28, .slice p123 ss120.length c124), (29, .int .i64 ((ss120.length : Nat) : Int)), (30, .int .i64 x799), (36, .slice p1159 ss1156.length c1160), (37, .int .i64 ((ss1156.length : Nat) : Int)), (38, .int .i64 x1290)] t') hl1349 ?_ ?_
          · skip
            have S1351 := S1166.front 0 rfl
            have S1352 := S1351.front 6 rfl
            have S1353 := S1352.front 3 rfl
            have S1354 := S1353.front 3 rfl
            have S1355 := S1354.front 6 rfl
            have S1356 := S1355.front 6 rfl
            have S1357 := S1356.front 6 rfl
            exact ⟨[], 0, (some (Addr.mk i1153 0 none)), 0, [], rfl, S1357, rfl, TSb.nil, (Sb.lit (n := 0) (by decide)), Sub.cons' rfl rfl (Sub.cons' rfl rfl (Sub.cons' rfl rfl (Sub.cons' rfl rfl (Sub.cons' rfl rfl (Sub.cons' rfl rfl (Sub.cons' rfl rfl (Sub.cons' rfl rfl (Sub.cons' rfl rfl (Sub.cons' rfl rfl (Sub.cons' rfl rfl (Sub.nil _)))))))))))⟩
          · rintro n1358 _ t' G1362 ⟨rs1286, x1290, p1284, c1285, T1287, rfl, S1361, tT1287, sT1287, Bo1283, hsub1363⟩ o1364 ho1359 hk1360
            refine AX.sub hsub1363 ?_
            unfold D_impl_ParseSchedule_s1 at ho1359
            refine AX.seq ?_
            refine AX.region ?_
            refine AO.p rfl (p_lss rfl rfl) ?_
            refine AO.nil ?_
            refine AX.seq ?_
            refine AX.cond rfl (fun c1365 => ?_) (fun c1365 => ?_)
            · have hd1366 := bif_t c1365 ho1359
              refine AX.skip ?_
              refine AX.seq ?_
              refine AX.block ?_
              refine AX.seq ?_
              refine AX.region ?_
              obtain ⟨k1367, hd1368⟩ := chk_some hd1366
              refine AO.p rfl (s_indexV (q := x1290.toNat) Tryd.underlying63 Tryd.sizeOf9 rfl (B1162.at (inR_pos k1367)) rfl k1367 (z1 _)) ?_
              refine AO.c rfl (s_load Tryd.isAgg9 rfl (row_cell (S1361.oat (k := 6) rfl (B1162.at (inR_pos k1367))) (sts_get (lt_len rfl (inR_lt k1367))))) ?_
              refine AO.p rfl (p_assign rfl) ?_
              refine AO.nil ?_
              refine AX.seq ?_
              refine AX.region ?_
              refine AO.p rfl (p_move rfl) ?_
              obtain ⟨⟨s1369, s1370, b1371⟩, h1372, hd1373⟩ := bnd_some hd1368
              refine AO.c rfl (o_call (vs := [.string (rds ss1156 x1290.toNat), .string (⟨#[45]⟩ : ByteArray)]) rfl Tryd.call43 (W_strings_Cut fu G1362 (rds ss1156 x1290.toNat) (⟨#[45]⟩ : ByteArray) s1369 s1370 b1371 h1372)) ?_
              refine AO.p rfl (p_move rfl) ?_
              refine AO.p rfl (p_extract rfl rfl) ?_
              refine AO.p rfl (p_extract rfl rfl) ?_
              refine AO.p rfl (p_extract rfl rfl) ?_
              refine AO.p rfl (p_assign rfl) ?_
              refine AO.p rfl (p_assign rfl) ?_
              refine AO.p rfl (p_assign rfl) ?_
              refine AO.nil ?_
              refine AX.seq ?_
              refine AX.region ?_
              refine AO.p rfl (p_move rfl) ?_
              refine AO.p rfl (p_neqS rfl rfl) ?_
              refine AO.nil ?_
              refine AX.cond rfl (fun c1375 => ?_) (fun c1375 => ?_)
              · have hd1376 := bif_t c1375 hd1373
                refine AX.region ?_
                refine AO.p rfl (p_move rfl) ?_
                refine AO.p rfl (p_move rfl) ?_
                obtain ⟨x1377, h1378, hd1379⟩ := bnd_some hd1376
                refine AO.c rfl (o_call (vs := [.string s1369]) rfl Tryd.call44 (W_impl_readNumber fu G1362 s1369 x1377 h1378)) ?_
                refine AO.p rfl (p_move rfl) ?_
                obtain ⟨x1381, h1382, hd1383⟩ := bnd_some hd1379
                refine AO.c rfl (o_call (vs := [.string s1370]) rfl Tryd.call44 (W_impl_readNumber fu G1362 s1370 x1381 h1382)) ?_
                obtain ⟨G1385, i1386, hii1386, hHG1385, S1387⟩ := S1361.new (AObj.row false (ints [x1377, x1381]))
                refine AO.c rfl (s_buildInts (i := i1386) (vs := [(0, .int .i64 x1377), (1, .int .i64 x1381)]) (xs := [x1377, x1381]) Tryd.underlying66 Tryd.sizeOf2 Tryd.zeroValue2 rfl rfl (by decide) rfl rfl hii1386 hHG1385) ?_
                obtain ⟨G1389, i1390, hii1390, hHG1389, S1391⟩ := S1387.new (AObj.row false (tcells ([((some (Addr.mk i1386 0 none)), 2, [x1377, x1381])])))
                have S1393 := (S1391.front 1 rfl).tone (some (Addr.mk i1386 0 none)) 2 [x1377, x1381] rfl
                refine AO.c rfl (s_buildT1 (i := i1390) (X := [((some (Addr.mk i1386 0 none)), 2, [x1377, x1381])]) (n := 2) rfl Tryd.underlying22 Tryd.sizeOf66 Tryd.zeroValue66 rfl rfl hii1390 hHG1389) ?_
                obtain ⟨k1394, hd1395⟩ := chk_some hd1383
                obtain ⟨p1396, c1397, G1398, haG1398, S1399, Bp1396⟩ := S1393.app (k := 5) rfl Bo1283 (tcells ([((some (Addr.mk i1386 0 none)), 2, [x1377, x1381])])) 1 (tc_len1 rfl rfl)
                have S1400 := S1399.cellsEq (k := 5) (us' := tcells (T1287 ++ [((some (Addr.mk i1386 0 none)), 2, [x1377, x1381])])) (tcells_app _ _).symm rfl
                have BS1400 : Sb p1396 ((rs1286 ++ [[x1377, x1381]]).length) c1397 1 := (show rs1286.length + 1 = (rs1286 ++ [[x1377, x1381]]).length from len_app (a := rs1286) (b := [[x1377, x1381]]) rfl rfl) ▸ Bp1396
                have S1401 := S1400.front 0 rfl
                have S1402 := (S1401.front 6 rfl).tmerge
                have S1403 := S1402.drop 1 rfl
                refine AO.c rfl (s_app (by_ := 24) (us := tcells T1287) (vs := tcells ([((some (Addr.mk i1386 0 none)), 2, [x1377, x1381])])) Tryd.underlying22 Tryd.underlying22 Tryd.typeInfo66 Tryd.sizeOf66 Tryd.zeroValue66 rfl rfl rfl rfl rfl rfl rfl (S1393.buf (k := 5) rfl Bo1283 (tc_len1 tT1287 rfl)) (S1393.oview (k := 1) rfl (Sb.lit (n := 1) (by decide)) (tc_len1 rfl rfl)) (tc_len1 rfl rfl) tcells_one k1394 haG1398 (show rs1286.length + 1 = (rs1286 ++ [[x1377, x1381]]).length from len_app (a := rs1286) (b := [[x1377, x1381]]) rfl rfl)) ?_
                refine AO.p rfl (p_assign rfl) ?_
                refine AO.nil ?_
                refine AX.region ?_
                obtain ⟨k1404, hd1405⟩ := chk_some hd1395
                refine AO.p rfl (p_addE rfl rfl k1404) ?_
                refine AO.p rfl (p_move rfl) ?_
                refine AO.nil ?_
                obtain rfl := some_inj hd1405
                have S1407 := S1403.front 6 rfl
                have S1408 := S1407.front 6 rfl
                have S1409 := S1408.front 2 rfl
                have S1410 := S1409.front 6 rfl
                have S1411 := S1410.front 6 rfl
                have S1412 := S1411.front 6 rfl
                have S1413 := S1412.front 6 rfl
                exact ⟨((rs1286 ++ [[x1377, x1381]]), x1290 + 1), hk1360, (rs1286 ++ [[x1377, x1381]]), (x1290 + 1), p1396, c1397, (T1287 ++ [((some (Addr.mk i1386 0 none)), 2, [x1377, x1381])]), rfl, S1413, (trows_apps tT1287 rfl), (TSb.app sT1287 (TSb.one (sb_len rfl (Sb.lit (n := 2) (by decide))))), BS1400, Sub.cons' rfl rfl (Sub.cons' rfl rfl (Sub.cons' rfl rfl (Sub.cons' rfl rfl (Sub.cons' rfl rfl (Sub.cons' rfl rfl (Sub.cons' rfl rfl (Sub.cons' rfl rfl (Sub.cons' rfl rfl (Sub.cons' rfl rfl (Sub.cons' rfl rfl (Sub.nil _)))))))))))⟩
              · have hd1414 := bif_f c1375 hd1373
                refine AX.skip ?_
                refine AX.region ?_
                obtain ⟨k1415, hd1416⟩ := chk_some hd1414
                refine AO.p rfl (p_addE rfl rfl k1415) ?_
                refine AO.p rfl (p_move rfl) ?_
                refine AO.nil ?_
                obtain rfl := some_inj hd1416
                have S1418 := S1361.front 6 rfl
                have S1419 := S1418.front 6 rfl
                have S1420 := S1419.front 6 rfl
                have S1421 := S1420.front 6 rfl
                have S1422 := S1421.front 6 rfl
                have S1423 := S1422.front 6 rfl
                have S1424 := S1423.front 6 rfl
                exact ⟨(rs1286, x1290 + 1), hk1360, rs1286, (x1290 + 1), p1284, c1285, T1287, rfl, S1424, tT1287, sT1287, Bo1283, Sub.cons' rfl rfl (Sub.cons' rfl rfl (Sub.cons' rfl rfl (Sub.cons' rfl rfl (Sub.cons' rfl rfl (Sub.cons' rfl rfl (Sub.cons' rfl rfl (Sub.cons' rfl rfl (Sub.cons' rfl rfl (Sub.cons' rfl rfl (Sub.cons' rfl rfl (Sub.nil _)))))))))))⟩
            · have hd1425 := bif_f c1365 ho1359
              refine AX.exit ?_
              obtain rfl := some_inj hd1425
              have S1426 := S1361.front 5 rfl
              have S1427 := S1426.front 5 rfl
              have S1428 := S1427.front 5 rfl
              have S1429 := S1428.front 5 rfl
              have S1430 := S1429.front 5 rfl
              have S1431 := S1430.front 5 rfl
              have S1432 := S1431.keep 6
              exact ⟨rs1286, p1284, c1285, T1287, hk1360, S1432, tT1287, sT1287, Bo1283, Sub.cons' rfl rfl (Sub.cons' rfl rfl (Sub.cons' rfl rfl (Sub.cons' rfl rfl (Sub.cons' rfl rfl (Sub.cons' rfl rfl (Sub.cons' rfl rfl (Sub.nil _)))))))⟩
        · rintro t' G1434 ⟨rs1345, p1343, c1344, T1346, rfl, S1433, tT1346, sT1346, Bo1342, hsub1435⟩
          refine ⟨_, hsub1435, ?_⟩
          refine AX.seq ?_
          refine AX.region ?_
          refine AO.p rfl (s_fieldAddr Tryd.underlying39 rfl Tryd.sizeOf2 (by decide) rfl rfl) ?_
          refine AO.c rfl (s_load Tryd.isAgg2 rfl (row_cell (S1433.get (k := 1) rfl) rfl)) ?_
          refine AO.p rfl (p_move rfl) ?_
          obtain ⟨⟨xs1436, x1437⟩, h1438, hd1439⟩ := bnd_some hd1350
          obtain ⟨hc1441, l1442⟩ := W_impl_RoundOf fu G1434 x110 p1343 c1344 T1346 rs1345 tT1346 (S1433.oview (k := 3) rfl Bo1342 (tc_len1 tT1346 rfl)) (S1433.oviewT (k := 4) rfl sT1346) xs1436 x1437 h1438
          refine AO.c rfl (o_call (vs := [.int .i64 x110, .slice p1343 rs1345.length c1344]) rfl Tryd.call50 hc1441) ?_
          refine AO.p rfl (p_move rfl) ?_
          refine AO.p rfl (p_extract rfl rfl) ?_
          refine AO.p rfl (p_extract rfl rfl) ?_
          obtain ⟨G1443, i1444, hii1444, hHG1443, S1445⟩ := S1433.new (AObj.row false (ints (List.replicate 14 0)))
          refine AO.c rfl (s_alloc (i := i1444) (cs := ints (List.replicate 14 0)) Tryd.zeroValue76 rfl rfl hii1444 hHG1443) ?_
          obtain ⟨G1447, hHG1447, S1448⟩ := S1445.set (k := 0) (i := i1444) rfl (AObj.row false (ints xs1436))
          refine AO.s (s_storeAll (vs := ints xs1436) Tryd.sizeOf76 rfl rfl ints_one (S1445.get (k := 0) rfl) (ints_len l1442) (ints_len len_rep) hHG1447) ?_
          refine AO.p rfl (p_assign rfl) ?_
          refine AO.nil ?_
          refine AX.seq ?_
          refine AX.seq ?_
          refine AX.region ?_
          refine AO.p rfl (p_move rfl) ?_
          refine AO.p rfl (p_neq rfl rfl) ?_
          refine AO.nil ?_
          refine AX.cond rfl (fun c1449 => ?_) (fun c1449 => ?_)
          · have hd1450 := bif_t c1449 hd1439
            refine AX.seq ?_
            refine AX.region ?_
            refine AO.p rfl (p_build2 (vs := []) (cs := [.int .i64 0, .slice none 0 0]) Tryd.underlying39 rfl rfl rfl Tryd.sizeOf2 Tryd.sizeOf37 Tryd.zeroValue39 rfl rfl rfl rfl rfl) ?_
            obtain ⟨G1451, hHG1451, S1452⟩ := S1448.set (k := 1) (i := i101) rfl (AObj.row false ([.int .i64 0, .slice none 0 0]))
            refine AO.s (s_storeAll (vs := [.int .i64 0, .slice none 0 0]) Tryd.sizeOf39 rfl rfl (ones_list rfl) (S1448.get (k := 1) rfl) rfl rfl hHG1451) ?_
            refine AO.p rfl (p_assign rfl) ?_
            refine AO.nil ?_
            refine AX.ret ?_
            obtain rfl := some_inj hd1450
            have z1453 : _ = r1134 := hk1143
            subst z1453
            obtain ⟨rfl, z1454⟩ := Prod.mk.inj (some_inj hd1136)
            obtain ⟨rfl, rfl⟩ := Prod.mk.inj z1454
            have S1456 : St [] H G1451 (oseg none (ints (List.flatten [])) :: _) := S1452.nilseg 0
            have S1457 := S1456.keep 1
            exact ⟨.inr rfl, _, res2 rfl (rv_cell (vs := [.int .i64 0, .slice none 0 0]) rfl Tryd.isAgg39 Tryd.sizeOf39 rfl (row_cells (S1452.get (k := 1) rfl))) (rv_tmp rfl), none, 0, rfl, S1457, Sb.nil, all_nil⟩
          · have hd1458 := bif_f c1449 hd1439
            refine AX.skip ?_
            refine AX.region ?_
            refine AO.p rfl (s_fieldAddr Tryd.underlying39 rfl Tryd.sizeOf37 (by decide) rfl rfl) ?_
            refine AO.c rfl (s_load Tryd.isAgg37 rfl (row_cell (S1448.get (k := 2) rfl) rfl)) ?_
            refine AO.c rfl (s_loadN (vs := ints xs1436) Tryd.isAgg76 Tryd.sizeOf76 rfl (ints_len l1442) (row_cells (S1448.get (k := 0) rfl))) ?_
            obtain ⟨G1459, i1460, hii1460, hHG1459, S1461⟩ := S1448.new (AObj.row false (ints [xs1436].flatten))
            refine AO.c rfl (s_build1 (i := i1460) (r := xs1436) (zr := List.replicate 14 0) Tryd.underlying37 Tryd.sizeOf76 Tryd.zeroValue76 rfl rfl (by decide) (by decide) rfl l1442 hii1460 hHG1459) ?_
            obtain ⟨k1463, hd1464⟩ := chk_some hd1458
            obtain ⟨p1465, c1466, G1467, haG1467, S1468, Bp1465⟩ := S1461.app (k := 4) rfl Bo794 (ints [xs1436].flatten) 1 (flat_len1 (all_one l1442) rfl)
            have S1469 := S1468.cellsEq (k := 4) (us' := ints (rs797 ++ [xs1436]).flatten) (intsf_app _ _) rfl
            have BS1469 : Sb p1465 ((rs797 ++ [xs1436]).length) c1466 14 := (show rs797.length + 1 = (rs797 ++ [xs1436]).length from len_app (a := rs797) (b := [xs1436]) rfl rfl) ▸ Bp1465
            have S1470 := S1469.drop 0 rfl
            refine AO.c rfl (s_app (by_ := 112) (us := ints rs797.flatten) (vs := ints [xs1436].flatten) Tryd.underlying37 Tryd.underlying37 Tryd.typeInfo76 Tryd.sizeOf76 Tryd.zeroValue76 rfl rfl rfl rfl rfl rfl rfl (S1461.buf (k := 4) rfl Bo794 (flat_len1 ars797 rfl)) (S1461.oview (k := 0) rfl (Sb.lit (n := 1) (by decide)) (flat_len1 (all_one l1442) rfl)) (flat_len1 (all_one l1442) rfl) ints_one k1463 haG1467 (show rs797.length + 1 = (rs797 ++ [xs1436]).length from len_app (a := rs797) (b := [xs1436]) rfl rfl)) ?_
            refine AO.p rfl (s_fieldAddr Tryd.underlying39 rfl Tryd.sizeOf37 (by decide) rfl rfl) ?_
            obtain ⟨G1471, hHG1471, S1472⟩ := S1470.set (k := 2) (i := i115) rfl (AObj.row false ([.int .i64 x110, .slice p1465 ((rs797 ++ [xs1436]).length) c1466]))
            refine AO.s (s_store Tryd.sizeOf37 rfl rfl rfl (S1470.get (k := 2) rfl) (Nat.le_of_ble_eq_true rfl) hHG1471) ?_
            refine AO.nil ?_
            refine AX.region ?_
            obtain ⟨k1473, hd1474⟩ := chk_some hd1464
            refine AO.p rfl (p_addE rfl rfl k1473) ?_
            refine AO.p rfl (p_move rfl) ?_
            refine AO.nil ?_
            obtain rfl := some_inj hd1474
            have S1476 := S1472.front 6 rfl
            have S1477 := S1476.front 4 rfl
            have S1478 := S1477.front 4 rfl
            have S1479 := S1478.front 4 rfl
            have S1480 := S1479.keep 4
            exact ⟨((rs797 ++ [xs1436]), x799 + 1), hk1143, (rs797 ++ [xs1436]), (x799 + 1), p1465, c1466, rfl, S1480, (all_app ars797 (all_one l1442)), BS1469, Sub.cons' rfl rfl (Sub.cons' rfl rfl (Sub.cons' rfl rfl (Sub.cons' rfl rfl (Sub.cons' rfl rfl (Sub.cons' rfl rfl (Sub.nil _))))))⟩
      · have hd1481 := bif_f c1148 ho1142
        refine AX.exit ?_
        obtain rfl := some_inj hd1481
        have S1482 := S1144.front 2 rfl
        have S1483 := S1482.front 2 rfl
        have S1484 := S1483.front 2 rfl
        have S1485 := S1484.keep 3
        exact ⟨rs797, p795, c796, hk1143, S1485, ars797, Bo794, Sub.cons' rfl rfl (Sub.cons' rfl rfl (Sub.cons' rfl rfl (Sub.nil _)))⟩
  · rintro t' G1487 ⟨rs1133, p1131, c1132, rfl, S1486, ars1133, Bo1130, hsub1488⟩
    refine ⟨_, hsub1488, ?_⟩
    refine AX.seq ?_
    obtain ⟨r1504, hb1505, hd1506⟩ := bnd_some hd1136
    refine AX.cut (fun t' H' => ∃ (b1503 : Bool), b1503 = r1504 ∧ St [] H H' [[(i101, AObj.row false ([.int .i64 0, .slice none 0 0]))], [(i115, AObj.row false ([.int .i64 x110, .slice p1131 rs1133.length c1132]))], oseg p1131 (ints rs1133.flatten)] ∧ Am.Sub [(2, .pointer (some ⟨i101, 0, none⟩)), (7, .pointer (some ⟨i115, 0, none⟩)), (84, .bool b1503)] t') ?_ ?_
    · skip
      refine AX.region ?_
      refine AO.c rfl (s_loadN (vs := [.int .i64 x110, .slice p1131 rs1133.length c1132]) Tryd.isAgg39 Tryd.sizeOf39 rfl rfl (row_cells (S1486.get (k := 1) rfl))) ?_
      obtain ⟨b1507, h1508, hd1509⟩ := bnd_some hb1505
      refine AO.c rfl (o_call (vs := [.agg [.int .i64 x110, .slice p1131 rs1133.length c1132].toArray]) rfl Tryd.call51 (W_impl_IsSchedule fu G1487 x110 p1131 c1132 rs1133 ars1133 (S1486.oview (k := 2) rfl Bo1130 (flat_len1 ars1133 rfl)) b1507 h1508)) ?_
      refine AO.p rfl (p_not rfl) ?_
      refine AO.p rfl (p_move rfl) ?_
      refine AO.cases (d := 79) rfl (fun c1511 => ?_) (fun c1511 => ?_)
      · have hd1512 := bif_t c1511 hd1509
        refine AO.gn rfl rfl rfl ?_
        refine AO.gn rfl rfl rfl ?_
        refine AO.gn rfl rfl rfl ?_
        refine AO.gn rfl rfl rfl ?_
        refine AO.p rfl (p_pickT rfl rfl) ?_
        refine AO.nil ?_
        have S1513 := S1486.front 2 rfl
        have S1514 := S1513.front 2 rfl
        have S1515 := S1514.front 2 rfl
        exact ⟨true, (some_inj hd1512), S1515, Sub.cons' rfl rfl (Sub.cons' rfl rfl (Sub.cons' rfl rfl (Sub.nil _)))⟩
      · have hd1516 := bif_f c1511 hd1509
        refine AO.gc rfl rfl rfl (s_loadN (vs := [.int .i64 x110, .slice p1131 rs1133.length c1132]) Tryd.isAgg39 Tryd.sizeOf39 rfl rfl (row_cells (S1486.get (k := 1) rfl))) ?_
        obtain ⟨s1517, h1518, hd1519⟩ := bnd_some hd1516
        refine AO.gc rfl rfl rfl (o_call (vs := [.agg [.int .i64 x110, .slice p1131 rs1133.length c1132].toArray]) rfl Tryd.call38 (W_impl_Schedule_text fu G1487 x110 p1131 c1132 rs1133 ars1133 (S1486.oview (k := 2) rfl Bo1130 (flat_len1 ars1133 rfl)) s1517 h1518)) ?_
        refine AO.gp rfl rfl rfl (p_move rfl) ?_
        refine AO.gp rfl rfl rfl (p_neqS rfl rfl) ?_
        refine AO.p rfl (p_pickF rfl rfl) ?_
        refine AO.nil ?_
        have S1521 := S1486.front 2 rfl
        have S1522 := S1521.front 2 rfl
        have S1523 := S1522.front 2 rfl
        exact ⟨(!((s1517 : ByteArray).toList == (a0 : ByteArray).toList)), (some_inj hd1519), S1523, Sub.cons' rfl rfl (Sub.cons' rfl rfl (Sub.cons' rfl rfl (Sub.nil _)))⟩
    · rintro t' G1525 ⟨b1503, rfl, S1524, hsub1526⟩
      refine AX.sub hsub1526 ?_
      refine AX.cond rfl (fun c1527 => ?_) (fun c1527 => ?_)
      · have hd1528 := bif_t c1527 hd1506
        refine AX.seq ?_
        refine AX.region ?_
        refine AO.p rfl (p_build2 (vs := []) (cs := [.int .i64 0, .slice none 0 0]) Tryd.underlying39 rfl rfl rfl Tryd.sizeOf2 Tryd.sizeOf37 Tryd.zeroValue39 rfl rfl rfl rfl rfl) ?_
        obtain ⟨G1529, hHG1529, S1530⟩ := S1524.set (k := 0) (i := i101) rfl (AObj.row false ([.int .i64 0, .slice none 0 0]))
        refine AO.s (s_storeAll (vs := [.int .i64 0, .slice none 0 0]) Tryd.sizeOf39 rfl rfl (ones_list rfl) (S1524.get (k := 0) rfl) rfl rfl hHG1529) ?_
        refine AO.p rfl (p_assign rfl) ?_
        refine AO.nil ?_
        refine AX.ret ?_
        obtain ⟨rfl, z1531⟩ := Prod.mk.inj (some_inj hd1528)
        obtain ⟨rfl, rfl⟩ := Prod.mk.inj z1531
        have S1533 : St [] H G1529 (oseg none (ints (List.flatten [])) :: _) := S1530.nilseg 0
        have S1534 := S1533.keep 1
        exact ⟨.inr rfl, _, res2 rfl (rv_cell (vs := [.int .i64 0, .slice none 0 0]) rfl Tryd.isAgg39 Tryd.sizeOf39 rfl (row_cells (S1530.get (k := 0) rfl))) (rv_tmp rfl), none, 0, rfl, S1534, Sb.nil, all_nil⟩
      · have hd1535 := bif_f c1527 hd1506
        refine AX.skip ?_
        refine AX.seq ?_
        refine AX.region ?_
        refine AO.c rfl (s_loadN (vs := [.int .i64 x110, .slice p1131 rs1133.length c1132]) Tryd.isAgg39 Tryd.sizeOf39 rfl rfl (row_cells (S1524.get (k := 1) rfl))) ?_
        obtain ⟨G1536, hHG1536, S1537⟩ := S1524.set (k := 0) (i := i101) rfl (AObj.row false ([.int .i64 x110, .slice p1131 rs1133.length c1132]))
        refine AO.s (s_storeAll (vs := [.int .i64 x110, .slice p1131 rs1133.length c1132]) Tryd.sizeOf39 rfl rfl (ones_list rfl) (S1524.get (k := 0) rfl) rfl rfl hHG1536) ?_
        refine AO.p rfl (p_assign rfl) ?_
        refine AO.nil ?_
        refine AX.ret ?_
        obtain ⟨rfl, z1538⟩ := Prod.mk.inj (some_inj hd1535)
        obtain ⟨rfl, rfl⟩ := Prod.mk.inj z1538
        have S1540 := S1537.front 2 rfl
        have S1541 := S1540.keep 1
        exact ⟨.inr rfl, _, res2 rfl (rv_cell (vs := [.int .i64 x110, .slice p1131 rs1133.length c1132]) rfl Tryd.isAgg39 Tryd.sizeOf39 rfl (row_cells (S1537.get (k := 0) rfl))) (rv_tmp rfl), p1131, c1132, rfl, S1541, Bo1130, ars1133⟩

end Go.Proofs.YtfiilgnebmidbaaDoor
