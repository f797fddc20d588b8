/-
  The program computes that, printed by a program. No condition.
-/
import Derived.Test.YtakfkiahhfdjfaaDI
import Derived.Test.YtakfkiahhfdjfaaWH
import Derived.Test.YtakfkiahhfdjfaaWC
import Derived.Test.YtakfkiahhfdjfaaProg
import Derived.KernelRfl
namespace Go.Proofs.Ytakfkiahhfdjfaa
open Go Go.RowKit Am
set_option linter.unusedVariables false
set_option linter.unusedSimpArgs false
set_option maxRecDepth 20000
set_option maxHeartbeats 4000000 in
theorem W_spec_RenumberSquare (fu : Nat) (H : AHeap) (a0_0 : Int) (p_a0_1 : Option Addr) (c_a0_1 : Nat) (T_a0_1 : Tb) (a0_1 : List (List Int)) (t_a0_1 : trows T_a0_1 = a0_1) (v_a0_1 : Vw H p_a0_1 a0_1.length c_a0_1 (tcells T_a0_1)) (w_a0_1 : TVw H T_a0_1) (p_a1 : Option Addr) (c_a1 : Nat) (a1 : List Int) (v_a1 : Vw H p_a1 a1.length c_a1 (ints a1)) (r0 : Int) (r1 : List (List Int)) (r2 : Int) (hd : D_spec_RenumberSquare fu a0_0 a0_1 a1 = some (r0, r1, r2)) : ∃ v G', ACall Try.prog 33 [.agg [.int .i64 a0_0, .slice p_a0_1 a0_1.length c_a0_1].toArray, .slice p_a1 a1.length c_a1] H v G' ∧ ∃ (p_r1 : Option Addr) (c_r1 : Nat) (T_r1 : Tb), (v = .tuple #[.agg [.int .i64 r0, .slice p_r1 r1.length c_r1].toArray, .int .i64 r2]) ∧ St [] H G' [oseg p_r1 (tcells T_r1), tseg T_r1] ∧ Sb p_r1 r1.length c_r1 1 ∧ trows T_r1 = r1 ∧ TSb T_r1 := by
  refine ACall.bodyX (args := [.agg [.int .i64 a0_0, .slice p_a0_1 a0_1.length c_a0_1].toArray, .slice p_a1 a1.length c_a1]) (N := 87) [(0, .agg [.int .i64 a0_0, .slice p_a0_1 a0_1.length c_a0_1].toArray), (1, .slice p_a1 a1.length c_a1)] (fun v G' => ∃ (p_r1 : Option Addr) (c_r1 : Nat) (T_r1 : Tb), (v = .tuple #[.agg [.int .i64 r0, .slice p_r1 r1.length c_r1].toArray, .int .i64 r2]) ∧ St [] H G' [oseg p_r1 (tcells T_r1), tseg T_r1] ∧ Sb p_r1 r1.length c_r1 1 ∧ trows T_r1 = r1 ∧ TSb T_r1) Try.func33 rfl rfl rfl rfl ?_
  unfold D_spec_RenumberSquare at hd
  have S0 : St [] H H [] := St.nil H
  refine AX.seq ?_
  refine AX.region ?_
  obtain ⟨G100, i101, hii101, hHG100, S102⟩ := S0.new (AObj.row false ([.int .i64 a0_0, .slice p_a0_1 a0_1.length c_a0_1]))
  refine AO.c rfl (s_box (i := i101) (cs := [.int .i64 a0_0, .slice p_a0_1 a0_1.length c_a0_1]) rfl hii101 rfl hHG100) ?_
  obtain ⟨G104, i105, hii105, hHG104, S106⟩ := S102.new (AObj.row false ([.int .i64 0, .slice none 0 0]))
  refine AO.c rfl (s_alloc (i := i105) (cs := [.int .i64 0, .slice none 0 0]) Try.zeroValue53 rfl rfl hii105 hHG104) ?_
  refine AO.p rfl (p_assign rfl) ?_
  refine AO.nil ?_
  refine AX.seq ?_
  refine AX.block ?_
  refine AX.seq ?_
  refine AX.region ?_
  refine AO.c rfl (s_loadN (vs := [.int .i64 a0_0, .slice p_a0_1 a0_1.length c_a0_1]) Try.isAgg53 Try.sizeOf53 rfl rfl (row_cells (S106.get (k := 1) rfl))) ?_
  obtain ⟨b108, h109, hd110⟩ := bnd_some hd
  refine AO.c rfl (o_call (vs := [.agg [.int .i64 a0_0, .slice p_a0_1 a0_1.length c_a0_1].toArray]) rfl Try.call82 (W_spec_l04Is fu G104 a0_0 p_a0_1 c_a0_1 T_a0_1 a0_1 t_a0_1 (S106.view v_a0_1) (S106.tview w_a0_1) b108 h109)) ?_
  refine AO.p rfl (p_not rfl) ?_
  refine AO.p rfl (p_assign rfl) ?_
  refine AO.nil ?_
  refine AX.cond rfl (fun c112 => ?_) (fun c112 => ?_)
  · have hd113 := bif_t c112 hd110
    refine AX.seq ?_
    refine AX.region ?_
    refine AO.p rfl (p_build2 (vs := []) (cs := [.int .i64 0, .slice none 0 0]) Try.underlying53 rfl rfl rfl Try.sizeOf2 Try.sizeOf22 Try.zeroValue53 rfl rfl rfl rfl rfl) ?_
    obtain ⟨G114, hHG114, S115⟩ := S106.set (k := 0) (i := i105) rfl (AObj.row false ([.int .i64 0, .slice none 0 0]))
    refine AO.s (s_storeAll (vs := [.int .i64 0, .slice none 0 0]) Try.sizeOf53 rfl rfl (ones_list rfl) (S106.get (k := 0) rfl) rfl rfl hHG114) ?_
    refine AO.p rfl (p_assign rfl) ?_
    refine AO.nil ?_
    refine AX.ret ?_
    obtain ⟨rfl, z116⟩ := Prod.mk.inj (some_inj hd113)
    obtain ⟨rfl, rfl⟩ := Prod.mk.inj z116
    have S118 : St [] H G114 (tseg [] :: _) := S115.nilseg 0
    have S119 : St [] H G114 (oseg none (tcells []) :: _) := S118.nilseg 0
    have S120 := S119.keep 2
    exact ⟨.inr rfl, _, res2 rfl (rv_cell (vs := [.int .i64 0, .slice none 0 0]) rfl Try.isAgg53 Try.sizeOf53 rfl (row_cells (S115.get (k := 0) rfl))) (rv_tmp rfl), none, 0, [], rfl, S120, Sb.nil, rfl, TSb.nil⟩
  · have hd121 := bif_f c112 hd110
    refine AX.seq ?_
    refine AX.region ?_
    refine AO.p rfl (p_move rfl) ?_
    refine AO.p rfl (s_fieldAddr Try.underlying53 rfl Try.sizeOf2 (by decide) rfl rfl) ?_
    refine AO.c rfl (s_load Try.isAgg2 rfl (row_cell (S106.get (k := 1) rfl) rfl)) ?_
    obtain ⟨k122, hd123⟩ := chk_some hd121
    refine AO.p rfl (p_addE rfl rfl k122) ?_
    obtain ⟨b124, h125, hd126⟩ := bnd_some hd123
    refine AO.c rfl (o_call (vs := [.slice p_a1 a1.length c_a1, .int .i64 (a0_0 + 1)]) rfl Try.call64 (W_spec_l01Order fu G104 p_a1 c_a1 a1 (S106.view v_a1) (a0_0 + 1) b124 h125)) ?_
    refine AO.p rfl (p_not rfl) ?_
    refine AO.p rfl (p_assign rfl) ?_
    refine AO.nil ?_
    refine AX.cond rfl (fun c128 => ?_) (fun c128 => ?_)
    · have hd129 := bif_t c128 hd126
      refine AX.seq ?_
      refine AX.region ?_
      refine AO.p rfl (p_build2 (vs := []) (cs := [.int .i64 0, .slice none 0 0]) Try.underlying53 rfl rfl rfl Try.sizeOf2 Try.sizeOf22 Try.zeroValue53 rfl rfl rfl rfl rfl) ?_
      obtain ⟨G130, hHG130, S131⟩ := S106.set (k := 0) (i := i105) rfl (AObj.row false ([.int .i64 0, .slice none 0 0]))
      refine AO.s (s_storeAll (vs := [.int .i64 0, .slice none 0 0]) Try.sizeOf53 rfl rfl (ones_list rfl) (S106.get (k := 0) rfl) rfl rfl hHG130) ?_
      refine AO.p rfl (p_assign rfl) ?_
      refine AO.nil ?_
      refine AX.ret ?_
      obtain ⟨rfl, z132⟩ := Prod.mk.inj (some_inj hd129)
      obtain ⟨rfl, rfl⟩ := Prod.mk.inj z132
      have S134 : St [] H G130 (tseg [] :: _) := S131.nilseg 0
      have S135 : St [] H G130 (oseg none (tcells []) :: _) := S134.nilseg 0
      have S136 := S135.keep 2
      exact ⟨.inr rfl, _, res2 rfl (rv_cell (vs := [.int .i64 0, .slice none 0 0]) rfl Try.isAgg53 Try.sizeOf53 rfl (row_cells (S131.get (k := 0) rfl))) (rv_tmp rfl), none, 0, [], rfl, S136, Sb.nil, rfl, TSb.nil⟩
    · have hd137 := bif_f c128 hd126
      refine AX.skip ?_
      refine AX.seq ?_
      refine AX.region ?_
      refine AO.p rfl (s_fieldAddr Try.underlying53 rfl Try.sizeOf2 (by decide) rfl rfl) ?_
      refine AO.c rfl (s_load Try.isAgg2 rfl (row_cell (S106.get (k := 1) rfl) rfl)) ?_
      obtain ⟨G138, i139, hii139, hHG138, S140⟩ := S106.new (AObj.row false (tcells []))
      have S140t := S140.nilseg 1
      refine AO.c rfl (s_build0 (i := i139) Try.underlying22 Try.sizeOf34 hii139 hHG138) ?_
      refine AO.p rfl (p_build2 (vs := [(0, .int .i64 a0_0), (1, .slice (some (Addr.mk i139 0 none)) 0 0)]) (cs := [.int .i64 a0_0, .slice (some (Addr.mk i139 0 none)) 0 0]) Try.underlying53 rfl rfl rfl Try.sizeOf2 Try.sizeOf22 Try.zeroValue53 rfl rfl rfl rfl rfl) ?_
      obtain ⟨G142, i143, hii143, hHG142, S144⟩ := S140t.new (AObj.row false ([.int .i64 0, .slice none 0 0]))
      refine AO.c rfl (s_alloc (i := i143) (cs := [.int .i64 0, .slice none 0 0]) Try.zeroValue53 rfl rfl hii143 hHG142) ?_
      obtain ⟨G146, hHG146, S147⟩ := S144.set (k := 0) (i := i143) rfl (AObj.row false ([.int .i64 a0_0, .slice (some (Addr.mk i139 0 none)) 0 0]))
      refine AO.s (s_storeAll (vs := [.int .i64 a0_0, .slice (some (Addr.mk i139 0 none)) 0 0]) Try.sizeOf53 rfl rfl (ones_list rfl) (S144.get (k := 0) rfl) rfl rfl hHG146) ?_
      refine AO.nil ?_
      refine AX.seq ?_
      refine AX.seq ?_
      refine AX.region ?_
      refine AO.p rfl (p_assign rfl) ?_
      refine AO.nil ?_
      obtain ⟨r1452, hl1453, hd1454⟩ := bnd_some hd137
      refine AX.cutS (fun t' H' => ∃ (rs1450 : List (List Int)) (p1448 : Option Addr) (c1449 : Nat) (T1451 : Tb), rs1450 = r1452 ∧ St [] H H' [[(i105, AObj.row false ([.int .i64 0, .slice none 0 0]))], [(i143, AObj.row false ([.int .i64 a0_0, .slice p1448 rs1450.length c1449]))], oseg p1448 (tcells T1451), tseg T1451] ∧ trows T1451 = rs1450 ∧ TSb T1451 ∧ Sb p1448 (rs1450.length) c1449 1 ∧ Am.Sub [(4, .pointer (some ⟨i105, 0, none⟩)), (6, .pointer (some ⟨i143, 0, none⟩))] t') ?_ ?_
      · refine AX.block ?_
        refine AX.loopF (fun s' t' H' => ∃ (rs1017 : List (List Int)) (x1019 : Int) (p1015 : Option Addr) (c1016 : Nat) (T1018 : Tb), (rs1017, x1019) = s' ∧ St [] H H' [[(i101, AObj.row false ([.int .i64 a0_0, .slice p_a0_1 a0_1.length c_a0_1]))], [(i105, AObj.row false ([.int .i64 0, .slice none 0 0]))], [(i143, AObj.row false ([.int .i64 a0_0, .slice p1015 rs1017.length c1016]))], oseg p1015 (tcells T1018), tseg T1018] ∧ trows T1018 = rs1017 ∧ TSb T1018 ∧ Sb p1015 (rs1017.length) c1016 1 ∧ Am.Sub [(1, .slice p_a1 a1.length c_a1), (2, .pointer (some ⟨i101, 0, none⟩)), (4, .pointer (some ⟨i105, 0, none⟩)), (6, .pointer (some ⟨i143, 0, none⟩)), (7, .int .i64 x1019)] t') hl1453 ?_ ?_
        · skip
          have S1455 := S147.front 2 rfl
          have S1456 := S1455.front 2 rfl
          have S1457 := S1456.front 2 rfl
          have S1458 := S1457.front 3 rfl
          have S1459 := S1458.front 4 rfl
          exact ⟨[], 0, (some (Addr.mk i139 0 none)), 0, [], rfl, S1459, rfl, TSb.nil, (Sb.lit (n := 0) (by decide)), Sub.cons' rfl rfl (Sub.cons' rfl rfl (Sub.cons' rfl rfl (Sub.cons' rfl rfl (Sub.cons' rfl rfl (Sub.nil _)))))⟩
        · rintro n1460 _ t' G1464 ⟨rs1017, x1019, p1015, c1016, T1018, rfl, S1463, tT1018, sT1018, Bo1014, hsub1465⟩ o1466 ho1461 hk1462
          refine AX.sub hsub1465 ?_
          unfold D_spec_RenumberSquare_s0 at ho1461
          refine AX.seq ?_
          refine AX.seq ?_
          refine AX.region ?_
          refine AO.p rfl (p_move rfl) ?_
          refine AO.p rfl (s_fieldAddr Try.underlying53 rfl Try.sizeOf22 (by decide) rfl rfl) ?_
          refine AO.c rfl (s_load Try.isAgg22 rfl (row_cell (S1463.get (k := 0) rfl) rfl)) ?_
          refine AO.p rfl (p_len_slice rfl Try.underlying22) ?_
          refine AO.p rfl (p_lss rfl rfl) ?_
          refine AO.nil ?_
          refine AX.cond rfl (fun c1467 => ?_) (fun c1467 => ?_)
          · have hd1468 := bif_t c1467 ho1461
            refine AX.skip ?_
            refine AX.seq ?_
            refine AX.block ?_
            refine AX.seq ?_
            refine AX.region ?_
            obtain ⟨G1469, i1470, hii1470, hHG1469, S1471⟩ := S1463.new (AObj.row false (ints []))
            refine AO.c rfl (s_build0 (i := i1470) Try.underlying34 Try.sizeOf2 hii1470 hHG1469) ?_
            refine AO.p rfl (p_assign rfl) ?_
            refine AO.nil ?_
            refine AX.seq ?_
            refine AX.seq ?_
            refine AX.region ?_
            refine AO.p rfl (p_assign rfl) ?_
            refine AO.nil ?_
            obtain ⟨r1756, hl1757, hd1758⟩ := bnd_some hd1468
            refine AX.cutS (fun t' H' => ∃ (xs1755 : List Int) (p1753 : Option Addr) (c1754 : Nat), xs1755 = r1756 ∧ St [] H H' [[(i101, AObj.row false ([.int .i64 a0_0, .slice p_a0_1 a0_1.length c_a0_1]))], [(i105, AObj.row false ([.int .i64 0, .slice none 0 0]))], [(i143, AObj.row false ([.int .i64 a0_0, .slice p1015 rs1017.length c1016]))], oseg p1015 (tcells T1018), tseg T1018, oseg p1753 (ints xs1755)] ∧ Sb p1753 (xs1755.length) c1754 1 ∧ Am.Sub [(1, .slice p_a1 a1.length c_a1), (2, .pointer (some ⟨i101, 0, none⟩)), (4, .pointer (some ⟨i105, 0, none⟩)), (6, .pointer (some ⟨i143, 0, none⟩)), (7, .int .i64 x1019), (8, .slice p1753 xs1755.length c1754)] t') ?_ ?_
            · refine AX.block ?_
              refine AX.loopF (fun s' t' H' => ∃ (xs1662 : List Int) (x1663 : Int) (p1660 : Option Addr) (c1661 : Nat), (xs1662, x1663) = s' ∧ St [] H H' [[(i101, AObj.row false ([.int .i64 a0_0, .slice p_a0_1 a0_1.length c_a0_1]))], [(i105, AObj.row false ([.int .i64 0, .slice none 0 0]))], [(i143, AObj.row false ([.int .i64 a0_0, .slice p1015 rs1017.length c1016]))], oseg p1015 (tcells T1018), tseg T1018, oseg p1660 (ints xs1662)] ∧ Sb p1660 (xs1662.length) c1661 1 ∧ Am.Sub [(1, .slice p_a1 a1.length c_a1), (2, .pointer (some ⟨i101, 0, none⟩)), (4, .pointer (some ⟨i105, 0, none⟩)), (6, .pointer (some ⟨i143, 0, none⟩)), (7, .int .i64 x1019), (8, .slice p1660 xs1662.length c1661), (9, .int .i64 x1663)] t') hl1757 ?_ ?_
              · skip
                have S1759 := S1471.front 0 rfl
                have S1760 := S1759.front 5 rfl
                have S1761 := S1760.front 5 rfl
                have S1762 := S1761.front 5 rfl
                have S1763 := S1762.front 5 rfl
                have S1764 := S1763.front 5 rfl
                exact ⟨[], 0, (some (Addr.mk i1470 0 none)), 0, rfl, S1764, (Sb.lit (n := 0) (by decide)), Sub.cons' rfl rfl (Sub.cons' rfl rfl (Sub.cons' rfl rfl (Sub.cons' rfl rfl (Sub.cons' rfl rfl (Sub.cons' rfl rfl (Sub.cons' rfl rfl (Sub.nil _)))))))⟩
              · rintro n1765 _ t' G1769 ⟨xs1662, x1663, p1660, c1661, rfl, S1768, Bo1659, hsub1770⟩ o1771 ho1766 hk1767
                refine AX.sub hsub1770 ?_
                unfold D_spec_RenumberSquare_s1 at ho1766
                refine AX.seq ?_
                refine AX.seq ?_
                refine AX.region ?_
                refine AO.p rfl (p_move rfl) ?_
                refine AO.p rfl (s_fieldAddr Try.underlying53 rfl Try.sizeOf22 (by decide) rfl rfl) ?_
                refine AO.c rfl (s_load Try.isAgg22 rfl (row_cell (S1768.get (k := 0) rfl) rfl)) ?_
                refine AO.p rfl (p_move rfl) ?_
                obtain ⟨k1772, hd1773⟩ := chk_some ho1766
                obtain ⟨p1774, c1775, e1776, f1777⟩ := tget t_a0_1 (lt_len rfl (inR_lt k1772))
                refine AO.p rfl (s_indexV (q := off p_a0_1 + x1019.toNat) Try.underlying22 Try.sizeOf34 rfl ((S1768.view v_a0_1).p f1777) rfl k1772 (o1 _ _)) ?_
                refine AO.c rfl (s_load Try.isAgg34 rfl ((S1768.view v_a0_1).get _ _ f1777)) ?_
                refine AO.p rfl (p_len_slice rfl Try.underlying34) ?_
                refine AO.p rfl (p_lss rfl rfl) ?_
                refine AO.nil ?_
                refine AX.cond rfl (fun c1778 => ?_) (fun c1778 => ?_)
                · have hd1779 := bif_t c1778 hd1773
                  refine AX.skip ?_
                  refine AX.seq ?_
                  refine AX.block ?_
                  refine AX.seq ?_
                  refine AX.region ?_
                  refine AO.p rfl (s_fieldAddr Try.underlying53 rfl Try.sizeOf22 (by decide) rfl rfl) ?_
                  refine AO.c rfl (s_load Try.isAgg22 rfl (row_cell (S1768.get (k := 0) rfl) rfl)) ?_
                  refine AO.p rfl (p_move rfl) ?_
                  obtain ⟨k1780, hd1781⟩ := chk_some hd1779
                  obtain ⟨p1782, c1783, e1784, f1785⟩ := tget t_a0_1 (lt_len rfl (inR_lt k1780))
                  refine AO.p rfl (s_indexV (q := off p_a0_1 + x1019.toNat) Try.underlying22 Try.sizeOf34 rfl ((S1768.view v_a0_1).p f1785) rfl k1780 (o1 _ _)) ?_
                  refine AO.c rfl (s_load Try.isAgg34 rfl ((S1768.view v_a0_1).get _ _ f1785)) ?_
                  refine AO.p rfl (p_move rfl) ?_
                  obtain ⟨k1786, hd1787⟩ := chk_some hd1781
                  refine AO.p rfl (s_indexV (q := off p1782 + x1663.toNat) Try.underlying34 Try.sizeOf2 rfl ((TVw.at (S1768.tview w_a0_1) e1784).p (ints_get (lt_len rfl (inR_lt k1786)))) rfl k1786 (o1 _ _)) ?_
                  refine AO.c rfl (s_load Try.isAgg2 rfl ((TVw.at (S1768.tview w_a0_1) e1784).get _ _ (ints_get (lt_len rfl (inR_lt k1786))))) ?_
                  refine AO.p rfl (p_assign rfl) ?_
                  refine AO.nil ?_
                  refine AX.seq ?_
                  refine AX.seq ?_
                  refine AX.region ?_
                  refine AO.p rfl (p_move rfl) ?_
                  refine AO.p rfl (p_geq rfl rfl) ?_
                  refine AO.nil ?_
                  obtain ⟨r1807, hb1808, hd1809⟩ := bnd_some hd1787
                  refine AX.cutS (fun t' H' => ∃ (x1806 : Int), x1806 = r1807 ∧ St [] H H' [[(i101, AObj.row false ([.int .i64 a0_0, .slice p_a0_1 a0_1.length c_a0_1]))], [(i105, AObj.row false ([.int .i64 0, .slice none 0 0]))], [(i143, AObj.row false ([.int .i64 a0_0, .slice p1015 rs1017.length c1016]))], oseg p1015 (tcells T1018), tseg T1018, oseg p1660 (ints xs1662)] ∧ Am.Sub [(1, .slice p_a1 a1.length c_a1), (2, .pointer (some ⟨i101, 0, none⟩)), (4, .pointer (some ⟨i105, 0, none⟩)), (6, .pointer (some ⟨i143, 0, none⟩)), (7, .int .i64 x1019), (8, .slice p1660 xs1662.length c1661), (9, .int .i64 x1663), (10, .int .i64 x1806)] t') ?_ ?_
                  · skip
                    refine AX.cond rfl (fun c1810 => ?_) (fun c1810 => ?_)
                    · have hd1811 := bif_t c1810 hb1808
                      refine AX.seq ?_
                      refine DR.startS [false, false, false, false, false, false, false, false, false, false, false, false] mix (by kernel_rfl) (fun hst => ?_)
                      refine DR.p rfl rfl (p_move rfl) ?_
                      refine DR.p rfl rfl (p_move rfl) ?_
                      obtain ⟨k1812, hd1813⟩ := chk_some hd1811
                      refine DR.p rfl rfl (p_quoE rfl rfl k1812) ?_
                      obtain ⟨k1814, hd1815⟩ := chk_some hd1813
                      refine DR.p rfl rfl (s_indexV (q := off p_a1 + ((rd (rw_ a0_1 x1019.toNat) x1663.toNat).tdiv 14).toNat) Try.underlying34 Try.sizeOf2 rfl ((S1768.view v_a1).p (ints_get (lt_len rfl (inR_lt k1814)))) rfl k1814 (o1 _ _)) ?_
                      refine DR.r rfl rfl (r_load rfl Try.isAgg2) (one_read ((S1768.view v_a1).get _ _ (ints_get (lt_len rfl (inR_lt k1814)))) (.of_flat0 rfl)) ?_
                      refine DR.p rfl rfl (p_move rfl) ?_
                      refine DR.p rfl rfl (p_move rfl) ?_
                      refine DR.p rfl rfl (p_remE rfl rfl (by decide)) ?_
                      obtain ⟨k1816, hd1817⟩ := chk_some hd1815
                      refine DR.p rfl rfl (s_indexV (q := off p_a1 + ((rd (rw_ a0_1 x1019.toNat) x1663.toNat).tmod 14).toNat) Try.underlying34 Try.sizeOf2 rfl ((S1768.view v_a1).p (ints_get (lt_len rfl (inR_lt k1816)))) rfl k1816 (o1 _ _)) ?_
                      refine DR.r rfl rfl (r_load rfl Try.isAgg2) (one_read ((S1768.view v_a1).get _ _ (ints_get (lt_len rfl (inR_lt k1816)))) (.of_flat0 rfl)) ?_
                      refine DR.p rfl rfl (p_assign rfl) ?_
                      refine DR.p rfl rfl (p_assign rfl) ?_
                      refine DR.nil 12 [] hst (by kernel_rfl) trivial ?_
                      refine AX.region ?_
                      refine AO.p rfl (p_move rfl) ?_
                      refine AO.p rfl (p_move rfl) ?_
                      refine AO.p rfl (p_min rfl rfl rfl) ?_
                      obtain ⟨k1818, hd1819⟩ := chk_some hd1817
                      refine AO.p rfl (p_mulE rfl rfl k1818) ?_
                      refine AO.p rfl (p_move rfl) ?_
                      refine AO.p rfl (p_move rfl) ?_
                      refine AO.p rfl (p_max rfl rfl rfl) ?_
                      obtain ⟨k1820, hd1821⟩ := chk_some hd1819
                      refine AO.p rfl (p_addE rfl rfl k1820) ?_
                      refine AO.p rfl (p_assign rfl) ?_
                      refine AO.nil ?_
                      have S1822 := S1768.front 5 rfl
                      have S1823 := S1822.front 5 rfl
                      have S1824 := S1823.front 5 rfl
                      have S1825 := S1824.front 5 rfl
                      have S1826 := S1825.front 5 rfl
                      have S1827 := S1826.front 5 rfl
                      exact ⟨(14 * (if rd a1 (((rd (rw_ a0_1 x1019.toNat) x1663.toNat).tmod 14).toNat) < rd a1 (((rd (rw_ a0_1 x1019.toNat) x1663.toNat).tdiv 14).toNat) then rd a1 (((rd (rw_ a0_1 x1019.toNat) x1663.toNat).tmod 14).toNat) else rd a1 (((rd (rw_ a0_1 x1019.toNat) x1663.toNat).tdiv 14).toNat)) + (if rd a1 (((rd (rw_ a0_1 x1019.toNat) x1663.toNat).tmod 14).toNat) > rd a1 (((rd (rw_ a0_1 x1019.toNat) x1663.toNat).tdiv 14).toNat) then rd a1 (((rd (rw_ a0_1 x1019.toNat) x1663.toNat).tmod 14).toNat) else rd a1 (((rd (rw_ a0_1 x1019.toNat) x1663.toNat).tdiv 14).toNat))), (some_inj hd1821), S1827, Sub.cons' rfl rfl (Sub.cons' rfl rfl (Sub.cons' rfl rfl (Sub.cons' rfl rfl (Sub.cons' rfl rfl (Sub.cons' rfl rfl (Sub.cons' rfl rfl (Sub.cons' rfl rfl (Sub.nil _))))))))⟩
                    · have hd1828 := bif_f c1810 hb1808
                      refine AX.skip ?_
                      have S1829 := S1768.front 5 rfl
                      have S1830 := S1829.front 5 rfl
                      have S1831 := S1830.front 5 rfl
                      have S1832 := S1831.front 5 rfl
                      have S1833 := S1832.front 5 rfl
                      have S1834 := S1833.front 5 rfl
                      exact ⟨(rd (rw_ a0_1 x1019.toNat) x1663.toNat), (some_inj hd1828), S1834, Sub.cons' rfl rfl (Sub.cons' rfl rfl (Sub.cons' rfl rfl (Sub.cons' rfl rfl (Sub.cons' rfl rfl (Sub.cons' rfl rfl (Sub.cons' rfl rfl (Sub.cons' rfl rfl (Sub.nil _))))))))⟩
                  · rintro t' G1836 ⟨x1806, rfl, S1835, hsub1837⟩
                    refine ⟨_, hsub1837, ?_⟩
                    refine AX.region ?_
                    refine AO.p rfl (p_move rfl) ?_
                    refine AO.p rfl (p_move rfl) ?_
                    obtain ⟨G1838, i1839, hii1839, hHG1838, S1840⟩ := S1835.new (AObj.row false (ints [x1806]))
                    refine AO.c rfl (s_buildInts (i := i1839) (vs := [(0, .int .i64 x1806)]) (xs := [x1806]) Try.underlying34 Try.sizeOf2 Try.zeroValue2 rfl rfl (by decide) rfl rfl hii1839 hHG1838) ?_
                    obtain ⟨k1842, hd1843⟩ := chk_some hd1809
                    obtain ⟨p1844, c1845, G1846, haG1846, S1847, Bp1844⟩ := S1840.app (k := 6) rfl Bo1659 (ints [x1806]) 1 (ints_len1 rfl)
                    have S1848 := S1847.cellsEq (k := 6) (us' := ints (xs1662 ++ [x1806])) (ints_app _ _) rfl
                    have BS1848 : Sb p1844 ((xs1662 ++ [x1806]).length) c1845 1 := (show xs1662.length + 1 = (xs1662 ++ [x1806]).length from len_app (a := xs1662) (b := [x1806]) rfl rfl) ▸ Bp1844
                    have S1849 := S1848.drop 0 rfl
                    refine AO.c rfl (s_app (by_ := 8) (us := ints xs1662) (vs := ints [x1806]) Try.underlying34 Try.underlying34 Try.typeInfo2 Try.sizeOf2 Try.zeroValue2 rfl rfl rfl rfl rfl rfl rfl (S1840.buf (k := 6) rfl Bo1659 (ints_len1 rfl)) (S1840.oview (k := 0) rfl (Sb.lit (n := 1) (by decide)) (ints_len1 rfl)) (ints_len1 rfl) ints_one k1842 haG1846 (show xs1662.length + 1 = (xs1662 ++ [x1806]).length from len_app (a := xs1662) (b := [x1806]) rfl rfl)) ?_
                    refine AO.p rfl (p_assign rfl) ?_
                    refine AO.nil ?_
                    refine AX.region ?_
                    refine AO.p rfl (p_move rfl) ?_
                    obtain ⟨k1850, hd1851⟩ := chk_some hd1843
                    refine AO.p rfl (p_addE rfl rfl k1850) ?_
                    refine AO.p rfl (p_assign rfl) ?_
                    refine AO.nil ?_
                    obtain rfl := some_inj hd1851
                    have S1853 := S1849.front 5 rfl
                    have S1854 := S1853.front 5 rfl
                    have S1855 := S1854.front 5 rfl
                    have S1856 := S1855.front 5 rfl
                    have S1857 := S1856.front 5 rfl
                    have S1858 := S1857.front 5 rfl
                    exact ⟨((xs1662 ++ [x1806]), x1663 + 1), hk1767, (xs1662 ++ [x1806]), (x1663 + 1), p1844, c1845, rfl, S1858, BS1848, Sub.cons' rfl rfl (Sub.cons' rfl rfl (Sub.cons' rfl rfl (Sub.cons' rfl rfl (Sub.cons' rfl rfl (Sub.cons' rfl rfl (Sub.cons' rfl rfl (Sub.nil _)))))))⟩
                · have hd1859 := bif_f c1778 hd1773
                  refine AX.exit ?_
                  obtain rfl := some_inj hd1859
                  have S1860 := S1768.front 5 rfl
                  have S1861 := S1860.front 5 rfl
                  have S1862 := S1861.front 5 rfl
                  have S1863 := S1862.front 5 rfl
                  have S1864 := S1863.front 5 rfl
                  have S1865 := S1864.front 5 rfl
                  exact ⟨xs1662, p1660, c1661, hk1767, S1865, Bo1659, Sub.cons' rfl rfl (Sub.cons' rfl rfl (Sub.cons' rfl rfl (Sub.cons' rfl rfl (Sub.cons' rfl rfl (Sub.cons' rfl rfl (Sub.nil _))))))⟩
            · rintro t' G1867 ⟨xs1755, p1753, c1754, rfl, S1866, Bo1752, hsub1868⟩
              refine ⟨_, hsub1868, ?_⟩
              refine AX.region ?_
              refine AO.p rfl (s_fieldAddr Try.underlying53 rfl Try.sizeOf22 (by decide) rfl rfl) ?_
              refine AO.c rfl (s_load Try.isAgg22 rfl (row_cell (S1866.get (k := 2) rfl) rfl)) ?_
              refine AO.p rfl (p_move rfl) ?_
              obtain ⟨G1869, i1870, hii1870, hHG1869, S1871⟩ := S1866.new (AObj.row false (tcells [(p1753, c1754, xs1755)]))
              have S1873 := (S1871.front 6 rfl).tone p1753 c1754 xs1755 rfl
              refine AO.c rfl (s_buildT1 (i := i1870) (X := [(p1753, c1754, xs1755)]) (n := xs1755.length) rfl Try.underlying22 Try.sizeOf34 Try.zeroValue34 rfl rfl hii1870 hHG1869) ?_
              obtain ⟨k1874, hd1875⟩ := chk_some hd1758
              obtain ⟨p1876, c1877, G1878, haG1878, S1879, Bp1876⟩ := S1873.app (k := 5) rfl Bo1014 (tcells [(p1753, c1754, xs1755)]) 1 (tc_len1 rfl rfl)
              have S1880 := S1879.cellsEq (k := 5) (us' := tcells (T1018 ++ [(p1753, c1754, xs1755)])) (tcells_app _ _).symm rfl
              have BS1880 : Sb p1876 ((rs1017 ++ [xs1755]).length) c1877 1 := (show rs1017.length + 1 = (rs1017 ++ [xs1755]).length from len_app (a := rs1017) (b := [xs1755]) rfl rfl) ▸ Bp1876
              have S1881 := S1880.front 0 rfl
              have S1882 := (S1881.front 6 rfl).tmerge
              have S1883 := S1882.drop 1 rfl
              refine AO.c rfl (s_app (by_ := 24) (us := tcells T1018) (vs := tcells [(p1753, c1754, xs1755)]) Try.underlying22 Try.underlying22 Try.typeInfo34 Try.sizeOf34 Try.zeroValue34 rfl rfl rfl rfl rfl rfl rfl (S1873.buf (k := 5) rfl Bo1014 (tc_len1 tT1018 rfl)) (S1873.oview (k := 1) rfl (Sb.lit (n := 1) (by decide)) (tc_len1 rfl rfl)) (tc_len1 rfl rfl) tcells_one k1874 haG1878 (show rs1017.length + 1 = (rs1017 ++ [xs1755]).length from len_app (a := rs1017) (b := [xs1755]) rfl rfl)) ?_
              refine AO.p rfl (s_fieldAddr Try.underlying53 rfl Try.sizeOf22 (by decide) rfl rfl) ?_
              obtain ⟨G1884, hHG1884, S1885⟩ := S1883.set (k := 3) (i := i143) rfl (AObj.row false ([.int .i64 a0_0, .slice p1876 ((rs1017 ++ [xs1755]).length) c1877]))
              refine AO.s (s_store Try.sizeOf22 rfl rfl rfl (S1883.get (k := 3) rfl) (Nat.le_of_ble_eq_true rfl) hHG1884) ?_
              refine AO.nil ?_
              refine AX.region ?_
              refine AO.p rfl (p_move rfl) ?_
              obtain ⟨k1886, hd1887⟩ := chk_some hd1875
              refine AO.p rfl (p_addE rfl rfl k1886) ?_
              refine AO.p rfl (p_assign rfl) ?_
              refine AO.nil ?_
              obtain rfl := some_inj hd1887
              have S1889 := S1885.front 0 rfl
              have S1890 := S1889.front 4 rfl
              have S1891 := S1890.front 4 rfl
              have S1892 := S1891.front 4 rfl
              have S1893 := S1892.front 4 rfl
              exact ⟨((rs1017 ++ [xs1755]), x1019 + 1), hk1462, (rs1017 ++ [xs1755]), (x1019 + 1), p1876, c1877, (T1018 ++ [(p1753, c1754, xs1755)]), rfl, S1893, (trows_apps tT1018 rfl), (TSb.app sT1018 (TSb.one (sb_len rfl Bo1752))), BS1880, Sub.cons' rfl rfl (Sub.cons' rfl rfl (Sub.cons' rfl rfl (Sub.cons' rfl rfl (Sub.cons' rfl rfl (Sub.nil _)))))⟩
          · have hd1894 := bif_f c1467 ho1461
            refine AX.exit ?_
            obtain rfl := some_inj hd1894
            have S1895 := S1463.front 4 rfl
            have S1896 := S1895.front 4 rfl
            have S1897 := S1896.front 4 rfl
            have S1898 := S1897.front 4 rfl
            have S1899 := S1898.keep 4
            exact ⟨rs1017, p1015, c1016, T1018, hk1462, S1899, tT1018, sT1018, Bo1014, Sub.cons' rfl rfl (Sub.cons' rfl rfl (Sub.nil _))⟩
      · rintro t' G1901 ⟨rs1450, p1448, c1449, T1451, rfl, S1900, tT1451, sT1451, Bo1447, hsub1902⟩
        refine ⟨_, hsub1902, ?_⟩
        refine AX.seq ?_
        refine AX.region ?_
        refine AO.c rfl (s_loadN (vs := [.int .i64 a0_0, .slice p1448 rs1450.length c1449]) Try.isAgg53 Try.sizeOf53 rfl rfl (row_cells (S1900.get (k := 1) rfl))) ?_
        obtain ⟨G1903, hHG1903, S1904⟩ := S1900.set (k := 0) (i := i105) rfl (AObj.row false ([.int .i64 a0_0, .slice p1448 rs1450.length c1449]))
        refine AO.s (s_storeAll (vs := [.int .i64 a0_0, .slice p1448 rs1450.length c1449]) Try.sizeOf53 rfl rfl (ones_list rfl) (S1900.get (k := 0) rfl) rfl rfl hHG1903) ?_
        refine AO.p rfl (p_assign rfl) ?_
        refine AO.nil ?_
        refine AX.ret ?_
        obtain ⟨rfl, z1905⟩ := Prod.mk.inj (some_inj hd1454)
        obtain ⟨rfl, rfl⟩ := Prod.mk.inj z1905
        have S1907 := S1904.front 3 rfl
        have S1908 := S1907.front 3 rfl
        have S1909 := S1908.keep 2
        exact ⟨.inr rfl, _, res2 rfl (rv_cell (vs := [.int .i64 a0_0, .slice p1448 rs1450.length c1449]) rfl Try.isAgg53 Try.sizeOf53 rfl (row_cells (S1904.get (k := 0) rfl))) (rv_tmp rfl), p1448, c1449, T1451, rfl, S1909, Bo1447, tT1451, sT1451⟩

set_option maxHeartbeats 4000000 in
theorem W_impl_square (fu : Nat) (H : AHeap) (a0 : Int) (r0 : List (List Int)) (hd : D_impl_square fu a0 = some r0) : ∃ v G', ACall Try.prog 118 [.int .i64 a0] H v G' ∧ ∃ (p_r0 : Option Addr) (c_r0 : Nat) (T_r0 : Tb), (v = .slice p_r0 r0.length c_r0) ∧ St [] H G' [oseg p_r0 (tcells T_r0), tseg T_r0] ∧ Sb p_r0 r0.length c_r0 1 ∧ trows T_r0 = r0 ∧ TSb T_r0 := by
  refine ACall.bodyX (args := [.int .i64 a0]) (N := 15) [(0, .int .i64 a0)] (fun v G' => ∃ (p_r0 : Option Addr) (c_r0 : Nat) (T_r0 : Tb), (v = .slice p_r0 r0.length c_r0) ∧ St [] H G' [oseg p_r0 (tcells T_r0), tseg T_r0] ∧ Sb p_r0 r0.length c_r0 1 ∧ trows T_r0 = r0 ∧ TSb T_r0) Try.func118 rfl rfl rfl rfl ?_
  unfold D_impl_square at hd
  have S0 : St [] H H [] := St.nil H
  refine AX.seq ?_
  refine AX.region ?_
  refine AO.p rfl (p_assign rfl) ?_
  refine AO.nil ?_
  refine AX.seq ?_
  refine AX.region ?_
  obtain ⟨G100, i101, hii101, hHG100, S102⟩ := S0.new (AObj.row false (tcells []))
  have S102t := S102.nilseg 1
  refine AO.c rfl (s_build0 (i := i101) Try.underlying22 Try.sizeOf34 hii101 hHG100) ?_
  refine AO.p rfl (p_assign rfl) ?_
  refine AO.nil ?_
  refine AX.seq ?_
  refine AX.seq ?_
  refine AX.region ?_
  refine AO.p rfl (p_move rfl) ?_
  refine AO.p rfl (p_move rfl) ?_
  refine AO.nil ?_
  obtain ⟨r209, hl210, hd211⟩ := bnd_some hd
  refine AX.cutS (fun t' H' => ∃ (rs207 : List (List Int)) (p205 : Option Addr) (c206 : Nat) (T208 : Tb), rs207 = r209 ∧ St [] H H' [oseg p205 (tcells T208), tseg T208] ∧ trows T208 = rs207 ∧ TSb T208 ∧ Sb p205 (rs207.length) c206 1 ∧ Am.Sub [(3, .slice p205 rs207.length c206)] t') ?_ ?_
  · refine AX.block ?_
    refine AX.loopF (fun s' t' H' => ∃ (rs172 : List (List Int)) (x174 : Int) (p170 : Option Addr) (c171 : Nat) (T173 : Tb), (rs172, x174) = s' ∧ St [] H H' [oseg p170 (tcells T173), tseg T173] ∧ trows T173 = rs172 ∧ TSb T173 ∧ Sb p170 (rs172.length) c171 1 ∧ Am.Sub [(0, .int .i64 a0), (3, .slice p170 rs172.length c171), (5, .int .i64 a0), (6, .int .i64 x174)] t') hl210 ?_ ?_
    · skip
      have S212 := S102t.front 1 rfl
      have S213 := S212.front 1 rfl
      exact ⟨[], 0, (some (Addr.mk i101 0 none)), 0, [], rfl, S213, rfl, TSb.nil, (Sb.lit (n := 0) (by decide)), Sub.cons' rfl rfl (Sub.cons' rfl rfl (Sub.cons' rfl rfl (Sub.cons' rfl rfl (Sub.nil _))))⟩
    · rintro n214 _ t' G218 ⟨rs172, x174, p170, c171, T173, rfl, S217, tT173, sT173, Bo169, hsub219⟩ o220 ho215 hk216
      refine AX.sub hsub219 ?_
      unfold D_impl_square_s0 at ho215
      refine AX.seq ?_
      refine AX.region ?_
      refine AO.p rfl (p_lss rfl rfl) ?_
      refine AO.nil ?_
      refine AX.seq ?_
      refine AX.cond rfl (fun c221 => ?_) (fun c221 => ?_)
      · have hd222 := bif_t c221 ho215
        refine AX.skip ?_
        refine AX.seq ?_
        refine AX.block ?_
        refine AX.region ?_
        refine AO.p rfl (p_move rfl) ?_
        refine AO.p rfl (p_move rfl) ?_
        obtain ⟨k223, hd224⟩ := chk_some hd222
        obtain ⟨G225, i226, hii226, hHG225, S227⟩ := S217.new (AObj.row false (ints (List.replicate a0.toNat 0)))
        refine AO.c rfl (s_makeIntsE (i := i226) (by_ := 8) Try.underlying34 Try.typeInfo2 Try.sizeOf2 Try.zeroValue2 rfl rfl rfl rfl rfl k223 hii226 hHG225) ?_
        obtain ⟨G229, i230, hii230, hHG229, S231⟩ := S227.new (AObj.row false (tcells [((some (Addr.mk i226 0 none)), a0.toNat, (List.replicate a0.toNat 0))]))
        have S233 := (S231.front 1 rfl).tone (some (Addr.mk i226 0 none)) a0.toNat (List.replicate a0.toNat 0) rfl
        refine AO.c rfl (s_buildT1 (i := i230) (X := [((some (Addr.mk i226 0 none)), a0.toNat, (List.replicate a0.toNat 0))]) (n := a0.toNat) len_rep Try.underlying22 Try.sizeOf34 Try.zeroValue34 rfl rfl hii230 hHG229) ?_
        obtain ⟨k234, hd235⟩ := chk_some hd224
        obtain ⟨p236, c237, G238, haG238, S239, Bp236⟩ := S233.app (k := 2) rfl Bo169 (tcells [((some (Addr.mk i226 0 none)), a0.toNat, (List.replicate a0.toNat 0))]) 1 (tc_len1 rfl rfl)
        have S240 := S239.cellsEq (k := 2) (us' := tcells (T173 ++ [((some (Addr.mk i226 0 none)), a0.toNat, (List.replicate a0.toNat 0))])) (tcells_app _ _).symm rfl
        have BS240 : Sb p236 ((rs172 ++ [(List.replicate a0.toNat 0)]).length) c237 1 := (show rs172.length + 1 = (rs172 ++ [(List.replicate a0.toNat 0)]).length from len_app (a := rs172) (b := [(List.replicate a0.toNat 0)]) rfl rfl) ▸ Bp236
        have S241 := S240.front 0 rfl
        have S242 := (S241.front 3 rfl).tmerge
        have S243 := S242.drop 1 rfl
        refine AO.c rfl (s_app (by_ := 24) (us := tcells T173) (vs := tcells [((some (Addr.mk i226 0 none)), a0.toNat, (List.replicate a0.toNat 0))]) Try.underlying22 Try.underlying22 Try.typeInfo34 Try.sizeOf34 Try.zeroValue34 rfl rfl rfl rfl rfl rfl rfl (S233.buf (k := 2) rfl Bo169 (tc_len1 tT173 rfl)) (S233.oview (k := 1) rfl (Sb.lit (n := 1) (by decide)) (tc_len1 rfl rfl)) (tc_len1 rfl rfl) tcells_one k234 haG238 (show rs172.length + 1 = (rs172 ++ [(List.replicate a0.toNat 0)]).length from len_app (a := rs172) (b := [(List.replicate a0.toNat 0)]) rfl rfl)) ?_
        refine AO.p rfl (p_assign rfl) ?_
        refine AO.nil ?_
        refine AX.region ?_
        obtain ⟨k244, hd245⟩ := chk_some hd235
        refine AO.p rfl (p_addE rfl rfl k244) ?_
        refine AO.p rfl (p_move rfl) ?_
        refine AO.nil ?_
        obtain rfl := some_inj hd245
        have S247 := S243.front 0 rfl
        have S248 := S247.front 1 rfl
        exact ⟨((rs172 ++ [(List.replicate a0.toNat 0)]), x174 + 1), hk216, (rs172 ++ [(List.replicate a0.toNat 0)]), (x174 + 1), p236, c237, (T173 ++ [((some (Addr.mk i226 0 none)), a0.toNat, (List.replicate a0.toNat 0))]), rfl, S248, (trows_apps tT173 rfl), (TSb.app sT173 (TSb.one (sb_len len_rep (Sb.lit (mkcap k223))))), BS240, Sub.cons' rfl rfl (Sub.cons' rfl rfl (Sub.cons' rfl rfl (Sub.cons' rfl rfl (Sub.nil _))))⟩
      · have hd249 := bif_f c221 ho215
        refine AX.exit ?_
        obtain rfl := some_inj hd249
        have S250 := S217.front 1 rfl
        have S251 := S250.front 1 rfl
        exact ⟨rs172, p170, c171, T173, hk216, S251, tT173, sT173, Bo169, Sub.cons' rfl rfl (Sub.nil _)⟩
  · rintro t' G253 ⟨rs207, p205, c206, T208, rfl, S252, tT208, sT208, Bo204, hsub254⟩
    refine ⟨_, hsub254, ?_⟩
    refine AX.seq ?_
    refine AX.region ?_
    refine AO.p rfl (p_move rfl) ?_
    refine AO.p rfl (p_assign rfl) ?_
    refine AO.nil ?_
    refine AX.ret ?_
    obtain rfl := some_inj hd211
    have S255 := S252.front 1 rfl
    have S256 := S255.front 1 rfl
    exact ⟨.inr rfl, _, res1 rfl (rv_tmp rfl), p205, c206, T208, rfl, S256, Bo204, tT208, sT208⟩

set_option maxHeartbeats 4000000 in
theorem W_impl_emptySquare (fu : Nat) (H : AHeap) (a0 : Int) (r0 : Int) (r1 : List (List Int)) (hd : D_impl_emptySquare fu a0 = some (r0, r1)) : ∃ v G', ACall Try.prog 84 [.int .i64 a0] H v G' ∧ ∃ (p_r1 : Option Addr) (c_r1 : Nat) (T_r1 : Tb), (v = .agg [.int .i64 r0, .slice p_r1 r1.length c_r1].toArray) ∧ St [] H G' [oseg p_r1 (tcells T_r1), tseg T_r1] ∧ Sb p_r1 r1.length c_r1 1 ∧ trows T_r1 = r1 ∧ TSb T_r1 := by
  refine ACall.bodyX (args := [.int .i64 a0]) (N := 29) [(0, .int .i64 a0)] (fun v G' => ∃ (p_r1 : Option Addr) (c_r1 : Nat) (T_r1 : Tb), (v = .agg [.int .i64 r0, .slice p_r1 r1.length c_r1].toArray) ∧ St [] H G' [oseg p_r1 (tcells T_r1), tseg T_r1] ∧ Sb p_r1 r1.length c_r1 1 ∧ trows T_r1 = r1 ∧ TSb T_r1) Try.func84 rfl rfl rfl rfl ?_
  unfold D_impl_emptySquare at hd
  have S0 : St [] H H [] := St.nil H
  refine AX.seq ?_
  refine AX.region ?_
  obtain ⟨G100, i101, hii101, hHG100, S102⟩ := S0.new (AObj.row false ([.int .i64 0, .slice none 0 0]))
  refine AO.c rfl (s_alloc (i := i101) (cs := [.int .i64 0, .slice none 0 0]) Try.zeroValue53 rfl rfl hii101 hHG100) ?_
  refine AO.nil ?_
  refine AX.seq ?_
  refine AX.region ?_
  refine AO.p rfl (p_move rfl) ?_
  refine AO.p rfl (p_move rfl) ?_
  obtain ⟨rs104, h105, hd106⟩ := bnd_some hd
  obtain ⟨_, G115, hc114, p107, c108, T111, rfl, S116, B110, t112, s113⟩ := W_impl_square fu G100 a0 rs104 h105
  have S117 := S102.call S116
  refine AO.c rfl (o_call (vs := [.int .i64 a0]) rfl Try.call118 hc114) ?_
  refine AO.p rfl (p_build2 (vs := [(0, .int .i64 a0), (1, .slice p107 rs104.length c108)]) (cs := [.int .i64 a0, .slice p107 rs104.length c108]) Try.underlying53 rfl rfl rfl Try.sizeOf2 Try.sizeOf22 Try.zeroValue53 rfl rfl rfl rfl rfl) ?_
  obtain ⟨G118, i119, hii119, hHG118, S120⟩ := S117.new (AObj.row false ([.int .i64 0, .slice none 0 0]))
  refine AO.c rfl (s_alloc (i := i119) (cs := [.int .i64 0, .slice none 0 0]) Try.zeroValue53 rfl rfl hii119 hHG118) ?_
  obtain ⟨G122, hHG122, S123⟩ := S120.set (k := 0) (i := i119) rfl (AObj.row false ([.int .i64 a0, .slice p107 rs104.length c108]))
  refine AO.s (s_storeAll (vs := [.int .i64 a0, .slice p107 rs104.length c108]) Try.sizeOf53 rfl rfl (ones_list rfl) (S120.get (k := 0) rfl) rfl rfl hHG122) ?_
  refine AO.nil ?_
  refine AX.seq ?_
  refine AX.seq ?_
  refine AX.region ?_
  refine AO.p rfl (s_fieldAddr Try.underlying53 rfl Try.sizeOf22 (by decide) rfl rfl) ?_
  refine AO.c rfl (s_load Try.isAgg22 rfl (row_cell (S123.get (k := 0) rfl) rfl)) ?_
  refine AO.p rfl (p_len_slice rfl Try.underlying22) ?_
  refine AO.p rfl (p_move rfl) ?_
  refine AO.nil ?_
  obtain ⟨r477, hl478, hd479⟩ := bnd_some hd106
  refine AX.cutS (fun t' H' => ∃ (rs475 : List (List Int)) (T476 : Tb), rs475 = r477 ∧ St [] H H' [[(i101, AObj.row false ([.int .i64 0, .slice none 0 0]))], [(i119, AObj.row false ([.int .i64 a0, .slice p107 rs104.length c108]))], oseg p107 (tcells T476), tseg T476] ∧ rs475.length = rs104.length ∧ trows T476 = rs475 ∧ TSb T476 ∧ Am.Sub [(2, .pointer (some ⟨i101, 0, none⟩)), (3, .pointer (some ⟨i119, 0, none⟩))] t') ?_ ?_
  · refine AX.block ?_
    refine AX.loopF (fun s' t' H' => ∃ (rs358 : List (List Int)) (x360 : Int) (T359 : Tb), (rs358, x360) = s' ∧ St [] H H' [[(i101, AObj.row false ([.int .i64 0, .slice none 0 0]))], [(i119, AObj.row false ([.int .i64 a0, .slice p107 rs104.length c108]))], oseg p107 (tcells T359), tseg T359] ∧ rs358.length = rs104.length ∧ trows T359 = rs358 ∧ TSb T359 ∧ Am.Sub [(2, .pointer (some ⟨i101, 0, none⟩)), (3, .pointer (some ⟨i119, 0, none⟩)), (12, .slice p107 rs104.length c108), (13, .int .i64 ((rs104.length : Nat) : Int)), (14, .int .i64 x360)] t') hl478 ?_ ?_
    · skip
      have S480 := S123.front 2 rfl
      have S481 := S480.front 2 rfl
      have S482 := S481.front 2 rfl
      have S483 := S482.front 3 rfl
      exact ⟨rs104, 0, T111, rfl, S483, rfl, t112, s113, Sub.cons' rfl rfl (Sub.cons' rfl rfl (Sub.cons' rfl rfl (Sub.cons' rfl rfl (Sub.cons' rfl rfl (Sub.nil _)))))⟩
    · rintro n484 _ t' G488 ⟨rs358, x360, T359, rfl, S487, lrs358, tT359, sT359, hsub489⟩ o490 ho485 hk486
      refine AX.sub hsub489 ?_
      unfold D_impl_emptySquare_s0 at ho485
      refine AX.seq ?_
      refine AX.region ?_
      refine AO.p rfl (p_lss rfl rfl) ?_
      refine AO.nil ?_
      refine AX.seq ?_
      refine AX.cond rfl (fun c491 => ?_) (fun c491 => ?_)
      · have hd492 := bif_t c491 ho485
        refine AX.skip ?_
        refine AX.seq ?_
        refine AX.block ?_
        refine AX.seq ?_
        refine AX.region ?_
        obtain ⟨k493, hd494⟩ := chk_some hd492
        refine AO.p rfl (s_indexV (q := x360.toNat) Try.underlying22 Try.sizeOf34 rfl (B110.at (inR_pos k493)) rfl k493 (z1 _)) ?_
        obtain ⟨p495, c496, e497, f498⟩ := tget tT359 (lt_len lrs358 (inR_lt k493))
        refine AO.c rfl (s_load Try.isAgg34 rfl (row_cell (S487.oat (k := 2) rfl (B110.at (inR_pos k493))) f498)) ?_
        refine AO.p rfl (p_assign rfl) ?_
        refine AO.nil ?_
        refine AX.seq ?_
        refine AX.region ?_
        refine AO.p rfl (p_move rfl) ?_
        refine AO.p rfl (p_len_slice rfl Try.underlying34) ?_
        refine AO.p rfl (p_move rfl) ?_
        refine AO.nil ?_
        obtain ⟨r560, hl561, hd562⟩ := bnd_some hd494
        refine AX.cutS (fun t' H' => ∃ (rs558 : List (List Int)) (T559 : Tb), rs558 = r560 ∧ St [] H H' [[(i101, AObj.row false ([.int .i64 0, .slice none 0 0]))], [(i119, AObj.row false ([.int .i64 a0, .slice p107 rs104.length c108]))], oseg p107 (tcells T559), tseg T559] ∧ rs558.length = rs104.length ∧ trows T559 = rs558 ∧ TSb T559 ∧ Am.Sub [(2, .pointer (some ⟨i101, 0, none⟩)), (3, .pointer (some ⟨i119, 0, none⟩)), (12, .slice p107 rs104.length c108), (13, .int .i64 ((rs104.length : Nat) : Int)), (14, .int .i64 x360)] t') ?_ ?_
        · refine AX.block ?_
          refine AX.loopF (fun s' t' H' => ∃ (rs538 : List (List Int)) (x541 : Int) (T539 : Tb), (rs538, x541) = s' ∧ St [] H H' [[(i101, AObj.row false ([.int .i64 0, .slice none 0 0]))], [(i119, AObj.row false ([.int .i64 a0, .slice p107 rs104.length c108]))], oseg p107 (tcells T539), tseg T539] ∧ rs538.length = rs104.length ∧ trows T539 = rs538 ∧ TSb T539 ∧ T539[x360.toNat]? = some (p495, c496, (rw_ rs538 x360.toNat)) ∧ (rw_ rs538 x360.toNat).length = (rw_ rs358 x360.toNat).length ∧ Am.Sub [(2, .pointer (some ⟨i101, 0, none⟩)), (3, .pointer (some ⟨i119, 0, none⟩)), (5, .slice p495 ((rw_ rs358 x360.toNat).length) c496), (12, .slice p107 rs104.length c108), (13, .int .i64 ((rs104.length : Nat) : Int)), (14, .int .i64 x360), (19, .int .i64 (((rw_ rs358 x360.toNat).length : Nat) : Int)), (20, .int .i64 x541)] t') hl561 ?_ ?_
          · skip
            have S563 := S487.front 3 rfl
            have S564 := S563.front 3 rfl
            have S565 := S564.front 3 rfl
            have S566 := S565.front 3 rfl
            exact ⟨rs358, 0, T359, rfl, S566, lrs358, tT359, sT359, (t_rw tT359 e497), (t_rwl (p := p495) (c := c496) tT359 e497 rfl), Sub.cons' rfl rfl (Sub.cons' rfl rfl (Sub.cons' rfl rfl (Sub.cons' rfl rfl (Sub.cons' rfl rfl (Sub.cons' rfl rfl (Sub.cons' rfl rfl (Sub.cons' rfl rfl (Sub.nil _))))))))⟩
          · rintro n567 _ t' G571 ⟨rs538, x541, T539, rfl, S570, lrs538, tT539, sT539, e540, le540, hsub572⟩ o573 ho568 hk569
            refine AX.sub hsub572 ?_
            unfold D_impl_emptySquare_s1 at ho568
            refine AX.seq ?_
            refine AX.region ?_
            refine AO.p rfl (p_lss rfl rfl) ?_
            refine AO.nil ?_
            refine AX.seq ?_
            refine AX.cond rfl (fun c574 => ?_) (fun c574 => ?_)
            · have hd575 := bif_t c574 ho568
              refine AX.skip ?_
              refine AX.seq ?_
              refine AX.block ?_
              refine AX.seq ?_
              refine AX.region ?_
              refine AO.p rfl (p_move rfl) ?_
              refine AO.p rfl (p_assign rfl) ?_
              refine AO.nil ?_
              refine AX.region ?_
              refine AO.p rfl (p_move rfl) ?_
              refine AO.p rfl (p_move rfl) ?_
              obtain ⟨k576, hd577⟩ := chk_some hd575
              refine AO.p rfl (s_indexV (q := off p495 + x541.toNat) Try.underlying34 Try.sizeOf2 rfl (((TVw.at (S570.oviewT (k := 3) rfl sT539) e540).len le540).p (ints_get (lt_len le540 (inR_lt k576)))) rfl k576 (o1 _ _)) ?_
              obtain ⟨G578, hHG578, S579⟩ := S570.tset (k := 3) rfl e540 (((TSb.at sT539 e540).len le540).at (inR_pos k576)) ((rw_ rs538 x360.toNat).set x541.toNat (-1))
              have S580 := S579.hdr (k := 2) (tcells_set (xs' := ((rw_ rs538 x360.toNat).set x541.toNat (-1))) e540 (len_set rfl)).symm rfl
              refine AO.s (s_storeO (o := off p495 + x541.toNat) (q := x541.toNat) (off0 (((TSb.at sT539 e540).len le540).at (inR_pos k576)) _) Try.sizeOf2 rfl rfl rfl (S570.tat (k := 3) rfl e540 (((TSb.at sT539 e540).len le540).at (inR_pos k576))) (lt_len ((ints_length _).trans le540) (inR_lt k576)) ((congrArg (fun l => List.set _ _ (AObj.row false l)) (ints_set _ _ _)).trans hHG578)) ?_
              refine AO.nil ?_
              refine AX.region ?_
              obtain ⟨k581, hd582⟩ := chk_some hd577
              refine AO.p rfl (p_addE rfl rfl k581) ?_
              refine AO.p rfl (p_move rfl) ?_
              refine AO.nil ?_
              obtain rfl := some_inj hd582
              have S584 := S580.front 3 rfl
              have S585 := S584.front 3 rfl
              have S586 := S585.front 3 rfl
              have S587 := S586.front 3 rfl
              exact ⟨((rs538.set x360.toNat ((rw_ rs538 x360.toNat).set x541.toNat (-1))), x541 + 1), hk569, (rs538.set x360.toNat ((rw_ rs538 x360.toNat).set x541.toNat (-1))), (x541 + 1), (T539.set x360.toNat (p495, c496, ((rw_ rs538 x360.toNat).set x541.toNat (-1)))), rfl, S587, (len_set lrs538), (trows_set' tT539), (TSb.set sT539 e540 (len_set rfl)), (t_rw (trows_set' tT539) (tset_same e540)), (t_rwl (p := p495) (c := c496) (trows_set' tT539) (tset_same e540) (len_set le540)), Sub.cons' rfl rfl (Sub.cons' rfl rfl (Sub.cons' rfl rfl (Sub.cons' rfl rfl (Sub.cons' rfl rfl (Sub.cons' rfl rfl (Sub.cons' rfl rfl (Sub.cons' rfl rfl (Sub.nil _))))))))⟩
            · have hd588 := bif_f c574 ho568
              refine AX.exit ?_
              obtain rfl := some_inj hd588
              have S589 := S570.front 3 rfl
              have S590 := S589.front 3 rfl
              have S591 := S590.front 3 rfl
              have S592 := S591.front 3 rfl
              exact ⟨rs538, T539, hk569, S592, lrs538, tT539, sT539, Sub.cons' rfl rfl (Sub.cons' rfl rfl (Sub.cons' rfl rfl (Sub.cons' rfl rfl (Sub.cons' rfl rfl (Sub.nil _)))))⟩
        · rintro t' G594 ⟨rs558, T559, rfl, S593, lrs558, tT559, sT559, hsub595⟩
          refine ⟨_, hsub595, ?_⟩
          refine AX.region ?_
          obtain ⟨k596, hd597⟩ := chk_some hd562
          refine AO.p rfl (p_addE rfl rfl k596) ?_
          refine AO.p rfl (p_move rfl) ?_
          refine AO.nil ?_
          obtain rfl := some_inj hd597
          have S599 := S593.front 3 rfl
          have S600 := S599.front 3 rfl
          have S601 := S600.front 3 rfl
          have S602 := S601.front 3 rfl
          exact ⟨(rs558, x360 + 1), hk486, rs558, (x360 + 1), T559, rfl, S602, lrs558, tT559, sT559, Sub.cons' rfl rfl (Sub.cons' rfl rfl (Sub.cons' rfl rfl (Sub.cons' rfl rfl (Sub.cons' rfl rfl (Sub.nil _)))))⟩
      · have hd603 := bif_f c491 ho485
        refine AX.exit ?_
        obtain rfl := some_inj hd603
        have S604 := S487.front 3 rfl
        have S605 := S604.front 3 rfl
        have S606 := S605.front 3 rfl
        have S607 := S606.front 3 rfl
        exact ⟨rs358, T359, hk486, S607, lrs358, tT359, sT359, Sub.cons' rfl rfl (Sub.cons' rfl rfl (Sub.nil _))⟩
  · rintro t' G609 ⟨rs475, T476, rfl, S608, lrs475, tT476, sT476, hsub610⟩
    refine ⟨_, hsub610, ?_⟩
    refine AX.seq ?_
    refine AX.region ?_
    refine AO.c rfl (s_loadN (vs := [.int .i64 a0, .slice p107 rs104.length c108]) Try.isAgg53 Try.sizeOf53 rfl rfl (row_cells (S608.get (k := 1) rfl))) ?_
    obtain ⟨G611, hHG611, S612⟩ := S608.set (k := 0) (i := i101) rfl (AObj.row false ([.int .i64 a0, .slice p107 rs104.length c108]))
    refine AO.s (s_storeAll (vs := [.int .i64 a0, .slice p107 rs104.length c108]) Try.sizeOf53 rfl rfl (ones_list rfl) (S608.get (k := 0) rfl) rfl rfl hHG611) ?_
    refine AO.nil ?_
    refine AX.ret ?_
    obtain ⟨rfl, rfl⟩ := Prod.mk.inj (some_inj hd479)
    have S614 := S612.front 3 rfl
    have S615 := S614.front 3 rfl
    have S616 := S615.keep 2
    exact ⟨.inr rfl, _, res1 rfl (rv_cell (vs := [.int .i64 a0, .slice p107 rs104.length c108]) rfl Try.isAgg53 Try.sizeOf53 rfl (row_cells (S612.get (k := 0) rfl))), p107, c108, T476, (by rw [show List.length rs475 = rs104.length from lrs475]), S616, (by rw [show List.length rs475 = rs104.length from lrs475]; exact B110), tT476, sT476⟩

set_option maxHeartbeats 4000000 in
theorem W_impl_Square_put (fu : Nat) (H : AHeap) (a0_0 : Int) (p_a0_1 : Option Addr) (c_a0_1 : Nat) (T_a0_1 : Tb) (a0_1 : List (List Int)) (t_a0_1 : trows T_a0_1 = a0_1) (s_a0_1 : Sb p_a0_1 a0_1.length c_a0_1 1) (z_a0_1 : TSb T_a0_1) (a1 : Int) (a2 : Int) (a3 : Int) (a4 : Int) (hn : ((oseg p_a0_1 (tcells T_a0_1) ++ (tseg T_a0_1)).map (·.1)).Nodup) (ho : ∀ x ∈ oseg p_a0_1 (tcells T_a0_1) ++ (tseg T_a0_1), x.1 < H.length ∧ hget H x.1 = x.2) (m_a0_1 : List (List Int)) (hd : D_impl_Square_put fu a0_0 a0_1 a1 a2 a3 a4 = some m_a0_1) : ∃ v G', ACall Try.prog 85 [.agg [.int .i64 a0_0, .slice p_a0_1 a0_1.length c_a0_1].toArray, .int .i64 a1, .int .i64 a2, .int .i64 a3, .int .i64 a4] H v G' ∧ ∃ (T_a0_1' : Tb), (v = .tuple #[]) ∧ St ((oseg p_a0_1 (tcells T_a0_1) ++ (tseg T_a0_1)).map (·.1)) H G' [oseg p_a0_1 (tcells T_a0_1'), tseg T_a0_1'] ∧ trows T_a0_1' = m_a0_1 ∧ TSb T_a0_1' ∧ m_a0_1.length = a0_1.length := by
  refine ACall.bodyX (args := [.agg [.int .i64 a0_0, .slice p_a0_1 a0_1.length c_a0_1].toArray, .int .i64 a1, .int .i64 a2, .int .i64 a3, .int .i64 a4]) (N := 25) [(0, .agg [.int .i64 a0_0, .slice p_a0_1 a0_1.length c_a0_1].toArray), (1, .int .i64 a1), (2, .int .i64 a2), (3, .int .i64 a3), (4, .int .i64 a4)] (fun v G' => ∃ (T_a0_1' : Tb), (v = .tuple #[]) ∧ St ((oseg p_a0_1 (tcells T_a0_1) ++ (tseg T_a0_1)).map (·.1)) H G' [oseg p_a0_1 (tcells T_a0_1'), tseg T_a0_1'] ∧ trows T_a0_1' = m_a0_1 ∧ TSb T_a0_1' ∧ m_a0_1.length = a0_1.length) Try.func85 rfl rfl rfl rfl ?_
  unfold D_impl_Square_put at hd
  have S0 : St ((oseg p_a0_1 (tcells T_a0_1) ++ (tseg T_a0_1)).map (·.1)) H H [oseg p_a0_1 (tcells T_a0_1), tseg T_a0_1] := (St.init (l := oseg p_a0_1 (tcells T_a0_1) ++ (tseg T_a0_1)) hn ho).same (by simp)
  refine AX.seq ?_
  refine AX.region ?_
  obtain ⟨G100, i101, hii101, hHG100, S102⟩ := S0.new (AObj.row false ([.int .i64 a0_0, .slice p_a0_1 a0_1.length c_a0_1]))
  refine AO.c rfl (s_box (i := i101) (cs := [.int .i64 a0_0, .slice p_a0_1 a0_1.length c_a0_1]) rfl hii101 rfl hHG100) ?_
  refine AO.nil ?_
  refine AX.region ?_
  refine AO.p rfl (s_fieldAddr Try.underlying53 rfl Try.sizeOf22 (by decide) rfl rfl) ?_
  refine AO.c rfl (s_load Try.isAgg22 rfl (row_cell (S102.get (k := 0) rfl) rfl)) ?_
  refine AO.p rfl (p_move rfl) ?_
  obtain ⟨k104, hd105⟩ := chk_some hd
  refine AO.p rfl (s_indexV (q := a1.toNat) Try.underlying22 Try.sizeOf34 rfl (s_a0_1.at (inR_pos k104)) rfl k104 (z1 _)) ?_
  obtain ⟨p106, c107, e108, f109⟩ := tget t_a0_1 (lt_len rfl (inR_lt k104))
  refine AO.c rfl (s_load Try.isAgg34 rfl (row_cell (S102.oat (k := 1) rfl (s_a0_1.at (inR_pos k104))) f109)) ?_
  refine AO.p rfl (p_move rfl) ?_
  refine AO.p rfl (p_move rfl) ?_
  refine AO.p rfl (p_move rfl) ?_
  refine AO.p rfl (p_min rfl rfl rfl) ?_
  obtain ⟨k110, hd111⟩ := chk_some hd105
  refine AO.p rfl (p_mulE rfl rfl k110) ?_
  refine AO.p rfl (p_move rfl) ?_
  refine AO.p rfl (p_move rfl) ?_
  refine AO.p rfl (p_max rfl rfl rfl) ?_
  obtain ⟨k112, hd113⟩ := chk_some hd111
  refine AO.p rfl (p_addE rfl rfl k112) ?_
  obtain ⟨k114, hd115⟩ := chk_some hd113
  refine AO.p rfl (s_indexV (q := off p106 + a2.toNat) Try.underlying34 Try.sizeOf2 rfl ((TVw.at (S102.oviewT (k := 2) rfl z_a0_1) e108).p (ints_get (lt_len rfl (inR_lt k114)))) rfl k114 (o1 _ _)) ?_
  obtain ⟨G116, hHG116, S117⟩ := S102.tset (k := 2) rfl e108 ((TSb.at z_a0_1 e108).at (inR_pos k114)) ((rw_ a0_1 a1.toNat).set a2.toNat (14 * (if a4 < a3 then a4 else a3) + (if a4 > a3 then a4 else a3)))
  have S118 := S117.hdr (k := 1) (tcells_set (xs' := ((rw_ a0_1 a1.toNat).set a2.toNat (14 * (if a4 < a3 then a4 else a3) + (if a4 > a3 then a4 else a3)))) e108 (len_set rfl)).symm rfl
  refine AO.s (s_storeO (o := off p106 + a2.toNat) (q := a2.toNat) (off0 ((TSb.at z_a0_1 e108).at (inR_pos k114)) _) Try.sizeOf2 rfl rfl rfl (S102.tat (k := 2) rfl e108 ((TSb.at z_a0_1 e108).at (inR_pos k114))) (lt_len (ints_length _) (inR_lt k114)) ((congrArg (fun l => List.set _ _ (AObj.row false l)) (ints_set _ _ _)).trans hHG116)) ?_
  refine AO.nil ?_
  obtain rfl := some_inj hd115
  have S119 := S118.front 2 rfl
  have S120 := S119.front 2 rfl
  have S121 := S120.keep 2
  exact ⟨.inl rfl, _, res_none rfl, (T_a0_1.set a1.toNat (p106, c107, ((rw_ a0_1 a1.toNat).set a2.toNat (14 * (if a4 < a3 then a4 else a3) + (if a4 > a3 then a4 else a3))))), rfl, S121, (trows_set' t_a0_1), (TSb.set z_a0_1 e108 (len_set rfl)), (len_set rfl)⟩

set_option maxHeartbeats 4000000 in
theorem W_impl_RenumberSquare (fu : Nat) (H : AHeap) (a0_0 : Int) (p_a0_1 : Option Addr) (c_a0_1 : Nat) (T_a0_1 : Tb) (a0_1 : List (List Int)) (t_a0_1 : trows T_a0_1 = a0_1) (v_a0_1 : Vw H p_a0_1 a0_1.length c_a0_1 (tcells T_a0_1)) (w_a0_1 : TVw H T_a0_1) (p_a1 : Option Addr) (c_a1 : Nat) (a1 : List Int) (v_a1 : Vw H p_a1 a1.length c_a1 (ints a1)) (r0 : Int) (r1 : List (List Int)) (r2 : Int) (hd : D_impl_RenumberSquare fu a0_0 a0_1 a1 = some (r0, r1, r2)) : ∃ v G', ACall Try.prog 35 [.agg [.int .i64 a0_0, .slice p_a0_1 a0_1.length c_a0_1].toArray, .slice p_a1 a1.length c_a1] H v G' ∧ ∃ (p_r1 : Option Addr) (c_r1 : Nat) (T_r1 : Tb), (v = .tuple #[.agg [.int .i64 r0, .slice p_r1 r1.length c_r1].toArray, .int .i64 r2]) ∧ St [] H G' [oseg p_r1 (tcells T_r1), tseg T_r1] ∧ Sb p_r1 r1.length c_r1 1 ∧ trows T_r1 = r1 ∧ TSb T_r1 := by
  refine ACall.bodyX (args := [.agg [.int .i64 a0_0, .slice p_a0_1 a0_1.length c_a0_1].toArray, .slice p_a1 a1.length c_a1]) (N := 61) [(0, .agg [.int .i64 a0_0, .slice p_a0_1 a0_1.length c_a0_1].toArray), (1, .slice p_a1 a1.length c_a1)] (fun v G' => ∃ (p_r1 : Option Addr) (c_r1 : Nat) (T_r1 : Tb), (v = .tuple #[.agg [.int .i64 r0, .slice p_r1 r1.length c_r1].toArray, .int .i64 r2]) ∧ St [] H G' [oseg p_r1 (tcells T_r1), tseg T_r1] ∧ Sb p_r1 r1.length c_r1 1 ∧ trows T_r1 = r1 ∧ TSb T_r1) Try.func35 rfl rfl rfl rfl ?_
  unfold D_impl_RenumberSquare at hd
  have S0 : St [] H H [] := St.nil H
  refine AX.seq ?_
  refine AX.region ?_
  obtain ⟨G100, i101, hii101, hHG100, S102⟩ := S0.new (AObj.row false ([.int .i64 a0_0, .slice p_a0_1 a0_1.length c_a0_1]))
  refine AO.c rfl (s_box (i := i101) (cs := [.int .i64 a0_0, .slice p_a0_1 a0_1.length c_a0_1]) rfl hii101 rfl hHG100) ?_
  obtain ⟨G104, i105, hii105, hHG104, S106⟩ := S102.new (AObj.row false ([.int .i64 0, .slice none 0 0]))
  refine AO.c rfl (s_alloc (i := i105) (cs := [.int .i64 0, .slice none 0 0]) Try.zeroValue53 rfl rfl hii105 hHG104) ?_
  refine AO.p rfl (p_assign rfl) ?_
  refine AO.nil ?_
  refine AX.seq ?_
  refine AX.block ?_
  refine AX.seq ?_
  refine AX.region ?_
  refine AO.c rfl (s_loadN (vs := [.int .i64 a0_0, .slice p_a0_1 a0_1.length c_a0_1]) Try.isAgg53 Try.sizeOf53 rfl rfl (row_cells (S106.get (k := 1) rfl))) ?_
  obtain ⟨b108, h109, hd110⟩ := bnd_some hd
  refine AO.c rfl (o_call (vs := [.agg [.int .i64 a0_0, .slice p_a0_1 a0_1.length c_a0_1].toArray]) rfl Try.call83 (W_impl_IsSquare fu G104 a0_0 p_a0_1 c_a0_1 T_a0_1 a0_1 t_a0_1 (S106.view v_a0_1) (S106.tview w_a0_1) b108 h109)) ?_
  refine AO.p rfl (p_not rfl) ?_
  refine AO.p rfl (p_assign rfl) ?_
  refine AO.nil ?_
  refine AX.cond rfl (fun c112 => ?_) (fun c112 => ?_)
  · have hd113 := bif_t c112 hd110
    refine AX.seq ?_
    refine AX.region ?_
    refine AO.p rfl (p_build2 (vs := []) (cs := [.int .i64 0, .slice none 0 0]) Try.underlying53 rfl rfl rfl Try.sizeOf2 Try.sizeOf22 Try.zeroValue53 rfl rfl rfl rfl rfl) ?_
    obtain ⟨G114, hHG114, S115⟩ := S106.set (k := 0) (i := i105) rfl (AObj.row false ([.int .i64 0, .slice none 0 0]))
    refine AO.s (s_storeAll (vs := [.int .i64 0, .slice none 0 0]) Try.sizeOf53 rfl rfl (ones_list rfl) (S106.get (k := 0) rfl) rfl rfl hHG114) ?_
    refine AO.p rfl (p_assign rfl) ?_
    refine AO.nil ?_
    refine AX.ret ?_
    obtain ⟨rfl, z116⟩ := Prod.mk.inj (some_inj hd113)
    obtain ⟨rfl, rfl⟩ := Prod.mk.inj z116
    have S118 : St [] H G114 (tseg [] :: _) := S115.nilseg 0
    have S119 : St [] H G114 (oseg none (tcells []) :: _) := S118.nilseg 0
    have S120 := S119.keep 2
    exact ⟨.inr rfl, _, res2 rfl (rv_cell (vs := [.int .i64 0, .slice none 0 0]) rfl Try.isAgg53 Try.sizeOf53 rfl (row_cells (S115.get (k := 0) rfl))) (rv_tmp rfl), none, 0, [], rfl, S120, Sb.nil, rfl, TSb.nil⟩
  · have hd121 := bif_f c112 hd110
    refine AX.seq ?_
    refine AX.region ?_
    refine AO.p rfl (p_move rfl) ?_
    refine AO.p rfl (s_fieldAddr Try.underlying53 rfl Try.sizeOf2 (by decide) rfl rfl) ?_
    refine AO.c rfl (s_load Try.isAgg2 rfl (row_cell (S106.get (k := 1) rfl) rfl)) ?_
    obtain ⟨k122, hd123⟩ := chk_some hd121
    refine AO.p rfl (p_addE rfl rfl k122) ?_
    obtain ⟨b124, h125, hd126⟩ := bnd_some hd123
    refine AO.c rfl (o_call (vs := [.slice p_a1 a1.length c_a1, .int .i64 (a0_0 + 1)]) rfl Try.call69 (W_impl_isOrder fu G104 p_a1 c_a1 a1 (S106.view v_a1) (a0_0 + 1) b124 h125)) ?_
    refine AO.p rfl (p_not rfl) ?_
    refine AO.p rfl (p_assign rfl) ?_
    refine AO.nil ?_
    refine AX.cond rfl (fun c128 => ?_) (fun c128 => ?_)
    · have hd129 := bif_t c128 hd126
      refine AX.seq ?_
      refine AX.region ?_
      refine AO.p rfl (p_build2 (vs := []) (cs := [.int .i64 0, .slice none 0 0]) Try.underlying53 rfl rfl rfl Try.sizeOf2 Try.sizeOf22 Try.zeroValue53 rfl rfl rfl rfl rfl) ?_
      obtain ⟨G130, hHG130, S131⟩ := S106.set (k := 0) (i := i105) rfl (AObj.row false ([.int .i64 0, .slice none 0 0]))
      refine AO.s (s_storeAll (vs := [.int .i64 0, .slice none 0 0]) Try.sizeOf53 rfl rfl (ones_list rfl) (S106.get (k := 0) rfl) rfl rfl hHG130) ?_
      refine AO.p rfl (p_assign rfl) ?_
      refine AO.nil ?_
      refine AX.ret ?_
      obtain ⟨rfl, z132⟩ := Prod.mk.inj (some_inj hd129)
      obtain ⟨rfl, rfl⟩ := Prod.mk.inj z132
      have S134 : St [] H G130 (tseg [] :: _) := S131.nilseg 0
      have S135 : St [] H G130 (oseg none (tcells []) :: _) := S134.nilseg 0
      have S136 := S135.keep 2
      exact ⟨.inr rfl, _, res2 rfl (rv_cell (vs := [.int .i64 0, .slice none 0 0]) rfl Try.isAgg53 Try.sizeOf53 rfl (row_cells (S131.get (k := 0) rfl))) (rv_tmp rfl), none, 0, [], rfl, S136, Sb.nil, rfl, TSb.nil⟩
    · have hd137 := bif_f c128 hd126
      refine AX.skip ?_
      refine AX.seq ?_
      refine AX.region ?_
      refine AO.p rfl (s_fieldAddr Try.underlying53 rfl Try.sizeOf2 (by decide) rfl rfl) ?_
      refine AO.c rfl (s_load Try.isAgg2 rfl (row_cell (S106.get (k := 1) rfl) rfl)) ?_
      obtain ⟨⟨x138, rs139⟩, h140, hd141⟩ := bnd_some hd137
      obtain ⟨_, G150, hc149, p142, c143, T146, rfl, S151, B145, t147, s148⟩ := W_impl_emptySquare fu G104 a0_0 x138 rs139 h140
      have S152 := S106.call S151
      refine AO.c rfl (o_call (vs := [.int .i64 a0_0]) rfl Try.call84 hc149) ?_
      obtain ⟨G153, i154, hii154, hHG153, S155⟩ := S152.new (AObj.row false ([.int .i64 0, .slice none 0 0]))
      refine AO.c rfl (s_alloc (i := i154) (cs := [.int .i64 0, .slice none 0 0]) Try.zeroValue53 rfl rfl hii154 hHG153) ?_
      obtain ⟨G157, hHG157, S158⟩ := S155.set (k := 0) (i := i154) rfl (AObj.row false ([.int .i64 x138, .slice p142 rs139.length c143]))
      refine AO.s (s_storeAll (vs := [.int .i64 x138, .slice p142 rs139.length c143]) Try.sizeOf53 rfl rfl (ones_list rfl) (S155.get (k := 0) rfl) rfl rfl hHG157) ?_
      refine AO.nil ?_
      refine AX.seq ?_
      refine AX.seq ?_
      refine AX.region ?_
      refine AO.p rfl (s_fieldAddr Try.underlying53 rfl Try.sizeOf22 (by decide) rfl rfl) ?_
      refine AO.c rfl (s_load Try.isAgg22 rfl (row_cell (S158.get (k := 4) rfl) rfl)) ?_
      refine AO.p rfl (p_len_slice rfl Try.underlying22) ?_
      refine AO.p rfl (p_move rfl) ?_
      refine AO.nil ?_
      obtain ⟨r773, hl774, hd775⟩ := bnd_some hd141
      refine AX.cutS (fun t' H' => ∃ (rs771 : List (List Int)) (T772 : Tb), rs771 = r773 ∧ St [] H H' [[(i105, AObj.row false ([.int .i64 0, .slice none 0 0]))], [(i154, AObj.row false ([.int .i64 x138, .slice p142 rs139.length c143]))], oseg p142 (tcells T772), tseg T772] ∧ rs771.length = rs139.length ∧ trows T772 = rs771 ∧ TSb T772 ∧ Am.Sub [(4, .pointer (some ⟨i105, 0, none⟩)), (6, .pointer (some ⟨i154, 0, none⟩))] t') ?_ ?_
      · refine AX.block ?_
        refine AX.loopF (fun s' t' H' => ∃ (rs567 : List (List Int)) (x569 : Int) (T568 : Tb), (rs567, x569) = s' ∧ St [] H H' [[(i105, AObj.row false ([.int .i64 0, .slice none 0 0]))], [(i154, AObj.row false ([.int .i64 x138, .slice p142 rs139.length c143]))], oseg p142 (tcells T568), tseg T568] ∧ rs567.length = rs139.length ∧ trows T568 = rs567 ∧ TSb T568 ∧ Am.Sub [(1, .slice p_a1 a1.length c_a1), (4, .pointer (some ⟨i105, 0, none⟩)), (6, .pointer (some ⟨i154, 0, none⟩)), (28, .slice p_a0_1 a0_1.length c_a0_1), (29, .int .i64 ((a0_1.length : Nat) : Int)), (30, .int .i64 x569)] t') hl774 ?_ ?_
        · skip
          have S776 := S158.front 2 rfl
          have S777 := S776.front 2 rfl
          have S778 := S777.front 2 rfl
          have S779 := S778.front 3 rfl
          have S780 := S779.keep 4
          exact ⟨rs139, 0, T146, rfl, S780, rfl, t147, s148, Sub.cons' rfl rfl (Sub.cons' rfl rfl (Sub.cons' rfl rfl (Sub.cons' rfl rfl (Sub.cons' rfl rfl (Sub.cons' rfl rfl (Sub.nil _))))))⟩
        · rintro n781 _ t' G785 ⟨rs567, x569, T568, rfl, S784, lrs567, tT568, sT568, hsub786⟩ o787 ho782 hk783
          refine AX.sub hsub786 ?_
          unfold D_impl_RenumberSquare_s0 at ho782
          refine AX.seq ?_
          refine AX.region ?_
          refine AO.p rfl (p_lss rfl rfl) ?_
          refine AO.nil ?_
          refine AX.seq ?_
          refine AX.cond rfl (fun c788 => ?_) (fun c788 => ?_)
          · have hd789 := bif_t c788 ho782
            refine AX.skip ?_
            refine AX.seq ?_
            refine AX.block ?_
            refine AX.seq ?_
            refine AX.region ?_
            refine AO.p rfl (p_move rfl) ?_
            obtain ⟨k790, hd791⟩ := chk_some hd789
            obtain ⟨p792, c793, e794, f795⟩ := tget t_a0_1 (lt_len rfl (inR_lt k790))
            refine AO.p rfl (s_indexV (q := off p_a0_1 + x569.toNat) Try.underlying22 Try.sizeOf34 rfl ((S784.view v_a0_1).p f795) rfl k790 (o1 _ _)) ?_
            refine AO.c rfl (s_load Try.isAgg34 rfl ((S784.view v_a0_1).get _ _ f795)) ?_
            refine AO.p rfl (p_assign rfl) ?_
            refine AO.p rfl (p_assign rfl) ?_
            refine AO.nil ?_
            refine AX.seq ?_
            refine AX.region ?_
            refine AO.p rfl (p_move rfl) ?_
            refine AO.p rfl (p_len_slice rfl Try.underlying34) ?_
            refine AO.p rfl (p_move rfl) ?_
            refine AO.nil ?_
            obtain ⟨r918, hl919, hd920⟩ := bnd_some hd791
            refine AX.cutS (fun t' H' => ∃ (rs916 : List (List Int)) (T917 : Tb), rs916 = r918 ∧ St [] H H' [[(i105, AObj.row false ([.int .i64 0, .slice none 0 0]))], [(i154, AObj.row false ([.int .i64 x138, .slice p142 rs139.length c143]))], oseg p142 (tcells T917), tseg T917] ∧ rs916.length = rs139.length ∧ trows T917 = rs916 ∧ TSb T917 ∧ Am.Sub [(1, .slice p_a1 a1.length c_a1), (4, .pointer (some ⟨i105, 0, none⟩)), (6, .pointer (some ⟨i154, 0, none⟩)), (28, .slice p_a0_1 a0_1.length c_a0_1), (29, .int .i64 ((a0_1.length : Nat) : Int)), (30, .int .i64 x569)] t') ?_ ?_
            · refine AX.block ?_
              refine AX.loopF (fun s' t' H' => ∃ (rs876 : List (List Int)) (x878 : Int) (T877 : Tb), (rs876, x878) = s' ∧ St [] H H' [[(i105, AObj.row false ([.int .i64 0, .slice none 0 0]))], [(i154, AObj.row false ([.int .i64 x138, .slice p142 rs139.length c143]))], oseg p142 (tcells T877), tseg T877] ∧ rs876.length = rs139.length ∧ trows T877 = rs876 ∧ TSb T877 ∧ Am.Sub [(1, .slice p_a1 a1.length c_a1), (4, .pointer (some ⟨i105, 0, none⟩)), (6, .pointer (some ⟨i154, 0, none⟩)), (7, .int .i64 x569), (28, .slice p_a0_1 a0_1.length c_a0_1), (29, .int .i64 ((a0_1.length : Nat) : Int)), (30, .int .i64 x569), (35, .slice p792 ((rw_ a0_1 x569.toNat).length) c793), (36, .int .i64 (((rw_ a0_1 x569.toNat).length : Nat) : Int)), (37, .int .i64 x878)] t') hl919 ?_ ?_
              · skip
                have S921 := S784.front 3 rfl
                have S922 := S921.front 3 rfl
                have S923 := S922.front 3 rfl
                have S924 := S923.front 3 rfl
                exact ⟨rs567, 0, T568, rfl, S924, lrs567, tT568, sT568, Sub.cons' rfl rfl (Sub.cons' rfl rfl (Sub.cons' rfl rfl (Sub.cons' rfl rfl (Sub.cons' rfl rfl (Sub.cons' rfl rfl (Sub.cons' rfl rfl (Sub.cons' rfl rfl (Sub.cons' rfl rfl (Sub.cons' rfl rfl (Sub.nil _))))))))))⟩
              · rintro n925 _ t' G929 ⟨rs876, x878, T877, rfl, S928, lrs876, tT877, sT877, hsub930⟩ o931 ho926 hk927
                refine AX.sub hsub930 ?_
                unfold D_impl_RenumberSquare_s1 at ho926
                refine AX.seq ?_
                refine AX.region ?_
                refine AO.p rfl (p_lss rfl rfl) ?_
                refine AO.nil ?_
                refine AX.seq ?_
                refine AX.cond rfl (fun c932 => ?_) (fun c932 => ?_)
                · have hd933 := bif_t c932 ho926
                  refine AX.skip ?_
                  refine AX.seq ?_
                  refine AX.block ?_
                  refine AX.seq ?_
                  refine AX.region ?_
                  refine AO.p rfl (p_move rfl) ?_
                  obtain ⟨k934, hd935⟩ := chk_some hd933
                  refine AO.p rfl (s_indexV (q := off p792 + x878.toNat) Try.underlying34 Try.sizeOf2 rfl ((TVw.at (S928.tview w_a0_1) e794).p (ints_get (lt_len rfl (inR_lt k934)))) rfl k934 (o1 _ _)) ?_
                  refine AO.c rfl (s_load Try.isAgg2 rfl ((TVw.at (S928.tview w_a0_1) e794).get _ _ (ints_get (lt_len rfl (inR_lt k934))))) ?_
                  refine AO.p rfl (p_assign rfl) ?_
                  refine AO.p rfl (p_assign rfl) ?_
                  refine AO.nil ?_
                  refine AX.seq ?_
                  refine AX.region ?_
                  refine AO.p rfl (p_move rfl) ?_
                  refine AO.p rfl (p_geq rfl rfl) ?_
                  refine AO.nil ?_
                  refine AX.cond rfl (fun c936 => ?_) (fun c936 => ?_)
                  · have hd937 := bif_t c936 hd935
                    refine DR.startS [false, false, false, false, false, false, false, false, false, false, false, false, false, true] mix (by kernel_rfl) (fun hst => ?_)
                    refine DR.r rfl rfl (r_loadN (vs := [.int .i64 x138, .slice p142 rs139.length c143]) rfl Try.isAgg53 Try.sizeOf53 rfl) (many_row (row_cells (S928.get (k := 1) rfl)) (bel_cons (.of_flat0 rfl) (bel_cons (S928.oin (k := 2) rfl B145).bel bel_nil))) ?_
                    refine DR.p rfl rfl (p_move rfl) ?_
                    refine DR.p rfl rfl (p_move rfl) ?_
                    refine DR.p rfl rfl (p_move rfl) ?_
                    refine DR.p rfl rfl (p_move rfl) ?_
                    obtain ⟨k938, hd939⟩ := chk_some hd937
                    refine DR.p rfl rfl (p_quoE rfl rfl k938) ?_
                    obtain ⟨k940, hd941⟩ := chk_some hd939
                    refine DR.p rfl rfl (s_indexV (q := off p_a1 + ((rd (rw_ a0_1 x569.toNat) x878.toNat).tdiv 14).toNat) Try.underlying34 Try.sizeOf2 rfl ((S928.view v_a1).p (ints_get (lt_len rfl (inR_lt k940)))) rfl k940 (o1 _ _)) ?_
                    refine DR.r rfl rfl (r_load rfl Try.isAgg2) (one_read ((S928.view v_a1).get _ _ (ints_get (lt_len rfl (inR_lt k940)))) (.of_flat0 rfl)) ?_
                    refine DR.p rfl rfl (p_move rfl) ?_
                    refine DR.p rfl rfl (p_move rfl) ?_
                    refine DR.p rfl rfl (p_remE rfl rfl (by decide)) ?_
                    obtain ⟨k942, hd943⟩ := chk_some hd941
                    refine DR.p rfl rfl (s_indexV (q := off p_a1 + ((rd (rw_ a0_1 x569.toNat) x878.toNat).tmod 14).toNat) Try.underlying34 Try.sizeOf2 rfl ((S928.view v_a1).p (ints_get (lt_len rfl (inR_lt k942)))) rfl k942 (o1 _ _)) ?_
                    refine DR.r rfl rfl (r_load rfl Try.isAgg2) (one_read ((S928.view v_a1).get _ _ (ints_get (lt_len rfl (inR_lt k942)))) (.of_flat0 rfl)) ?_
                    have S944 := S928.front 3 rfl
                    have S945 := S944.front 3 rfl
                    obtain ⟨rs946, h947, hd948⟩ := bnd_some hd943
                    obtain ⟨_, G954, hc953, T949, rfl, S955, t950, s951, l952⟩ := W_impl_Square_put fu G929 x138 p142 c143 T877 rs876 tT877 (by rw [show List.length rs876 = rs139.length from lrs876]; exact B145) sT877 x569 x878 (rd a1 (((rd (rw_ a0_1 x569.toNat) x878.toNat).tdiv 14).toNat)) (rd a1 (((rd (rw_ a0_1 x569.toNat) x878.toNat).tmod 14).toNat)) ((S945).join2.onodup (k := 0) rfl) ((S945).join2.omem (k := 0) rfl) rs946 h947
                    rw [show List.length rs876 = rs139.length from lrs876] at hc953
                    have S956 := St.callM (A := [oseg p142 (tcells T877), tseg T877]) S945 S955 (by simp)
                    refine DR.w rfl rfl (o_call (vs := [.agg [.int .i64 x138, .slice p142 rs139.length c143].toArray, .int .i64 x569, .int .i64 x878, .int .i64 (rd a1 (((rd (rw_ a0_1 x569.toNat) x878.toNat).tdiv 14).toNat)), .int .i64 (rd a1 (((rd (rw_ a0_1 x569.toNat) x878.toNat).tmod 14).toNat))]) rfl Try.call85 hc953) (S955.len) ?_
                    refine DR.nil 14 [] hst (by kernel_rfl) trivial ?_
                    refine AX.region ?_
                    obtain ⟨k957, hd958⟩ := chk_some hd948
                    refine AO.p rfl (p_addE rfl rfl k957) ?_
                    refine AO.p rfl (p_move rfl) ?_
                    refine AO.nil ?_
                    obtain rfl := some_inj hd958
                    have S960 := S956.front 1 rfl
                    have S961 := S960.front 1 rfl
                    have S962 := S961.front 3 rfl
                    have S963 := S962.front 3 rfl
                    exact ⟨(rs946, x878 + 1), hk927, rs946, (x878 + 1), T949, rfl, S963, (Eq.trans l952 lrs876), t950, s951, Sub.cons' rfl rfl (Sub.cons' rfl rfl (Sub.cons' rfl rfl (Sub.cons' rfl rfl (Sub.cons' rfl rfl (Sub.cons' rfl rfl (Sub.cons' rfl rfl (Sub.cons' rfl rfl (Sub.cons' rfl rfl (Sub.cons' rfl rfl (Sub.nil _))))))))))⟩
                  · have hd964 := bif_f c936 hd935
                    refine AX.skip ?_
                    refine AX.region ?_
                    obtain ⟨k965, hd966⟩ := chk_some hd964
                    refine AO.p rfl (p_addE rfl rfl k965) ?_
                    refine AO.p rfl (p_move rfl) ?_
                    refine AO.nil ?_
                    obtain rfl := some_inj hd966
                    have S968 := S928.front 3 rfl
                    have S969 := S968.front 3 rfl
                    have S970 := S969.front 3 rfl
                    have S971 := S970.front 3 rfl
                    exact ⟨(rs876, x878 + 1), hk927, rs876, (x878 + 1), T877, rfl, S971, lrs876, tT877, sT877, Sub.cons' rfl rfl (Sub.cons' rfl rfl (Sub.cons' rfl rfl (Sub.cons' rfl rfl (Sub.cons' rfl rfl (Sub.cons' rfl rfl (Sub.cons' rfl rfl (Sub.cons' rfl rfl (Sub.cons' rfl rfl (Sub.cons' rfl rfl (Sub.nil _))))))))))⟩
                · have hd972 := bif_f c932 ho926
                  refine AX.exit ?_
                  obtain rfl := some_inj hd972
                  have S973 := S928.front 3 rfl
                  have S974 := S973.front 3 rfl
                  have S975 := S974.front 3 rfl
                  have S976 := S975.front 3 rfl
                  exact ⟨rs876, T877, hk927, S976, lrs876, tT877, sT877, Sub.cons' rfl rfl (Sub.cons' rfl rfl (Sub.cons' rfl rfl (Sub.cons' rfl rfl (Sub.cons' rfl rfl (Sub.cons' rfl rfl (Sub.nil _))))))⟩
            · rintro t' G978 ⟨rs916, T917, rfl, S977, lrs916, tT917, sT917, hsub979⟩
              refine ⟨_, hsub979, ?_⟩
              refine AX.region ?_
              obtain ⟨k980, hd981⟩ := chk_some hd920
              refine AO.p rfl (p_addE rfl rfl k980) ?_
              refine AO.p rfl (p_move rfl) ?_
              refine AO.nil ?_
              obtain rfl := some_inj hd981
              have S983 := S977.front 3 rfl
              have S984 := S983.front 3 rfl
              have S985 := S984.front 3 rfl
              have S986 := S985.front 3 rfl
              exact ⟨(rs916, x569 + 1), hk783, rs916, (x569 + 1), T917, rfl, S986, lrs916, tT917, sT917, Sub.cons' rfl rfl (Sub.cons' rfl rfl (Sub.cons' rfl rfl (Sub.cons' rfl rfl (Sub.cons' rfl rfl (Sub.cons' rfl rfl (Sub.nil _))))))⟩
          · have hd987 := bif_f c788 ho782
            refine AX.exit ?_
            obtain rfl := some_inj hd987
            have S988 := S784.front 3 rfl
            have S989 := S988.front 3 rfl
            have S990 := S989.front 3 rfl
            have S991 := S990.front 3 rfl
            exact ⟨rs567, T568, hk783, S991, lrs567, tT568, sT568, Sub.cons' rfl rfl (Sub.cons' rfl rfl (Sub.nil _))⟩
      · rintro t' G993 ⟨rs771, T772, rfl, S992, lrs771, tT772, sT772, hsub994⟩
        refine ⟨_, hsub994, ?_⟩
        refine AX.seq ?_
        refine AX.region ?_
        refine AO.c rfl (s_loadN (vs := [.int .i64 x138, .slice p142 rs139.length c143]) Try.isAgg53 Try.sizeOf53 rfl rfl (row_cells (S992.get (k := 1) rfl))) ?_
        obtain ⟨G995, hHG995, S996⟩ := S992.set (k := 0) (i := i105) rfl (AObj.row false ([.int .i64 x138, .slice p142 rs139.length c143]))
        refine AO.s (s_storeAll (vs := [.int .i64 x138, .slice p142 rs139.length c143]) Try.sizeOf53 rfl rfl (ones_list rfl) (S992.get (k := 0) rfl) rfl rfl hHG995) ?_
        refine AO.p rfl (p_assign rfl) ?_
        refine AO.nil ?_
        refine AX.ret ?_
        obtain ⟨rfl, z997⟩ := Prod.mk.inj (some_inj hd775)
        obtain ⟨rfl, rfl⟩ := Prod.mk.inj z997
        have S999 := S996.front 3 rfl
        have S1000 := S999.front 3 rfl
        have S1001 := S1000.keep 2
        exact ⟨.inr rfl, _, res2 rfl (rv_cell (vs := [.int .i64 x138, .slice p142 rs139.length c143]) rfl Try.isAgg53 Try.sizeOf53 rfl (row_cells (S996.get (k := 0) rfl))) (rv_tmp rfl), p142, c143, T772, (by rw [show List.length rs771 = rs139.length from lrs771]), S1001, (by rw [show List.length rs771 = rs139.length from lrs771]; exact B145), tT772, sT772⟩

end Go.Proofs.Ytakfkiahhfdjfaa
