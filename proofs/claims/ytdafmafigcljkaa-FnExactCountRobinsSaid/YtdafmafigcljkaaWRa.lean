/-
  The program computes that, printed by a program. No condition.
-/
import Derived.Test.YtdafmafigcljkaaDRa
import Derived.Test.YtdafmafigcljkaaWA
import Derived.Test.YtdafmafigcljkaaTbb
import Derived.Test.YtdafmafigcljkaaAst
import Derived.Test.YtdafmafigcljkaaProg
import Derived.KernelRfl
namespace Go.Proofs.Ytdafmafigcljkaa
open Go Go.RowKit Am
set_option linter.unusedVariables false
set_option linter.unusedSimpArgs false
set_option maxRecDepth 20000
set_option maxHeartbeats 4000000 in
theorem W_spec_l01Meetings (fu : Nat) (H : AHeap) (a0_0 : Int) (p_a0_1 : Option Addr) (c_a0_1 : Nat) (a0_1 : List (List Int)) (a_a0_1 : All 14 a0_1) (v_a0_1 : Vw H p_a0_1 a0_1.length c_a0_1 (ints a0_1.flatten)) (r0 : List (List Int)) (hd : D_spec_l01Meetings fu a0_0 a0_1 = some r0) : ∃ v G', ACall Try.prog 147 [.agg [.int .i64 a0_0, .slice p_a0_1 a0_1.length c_a0_1].toArray] H v G' ∧ ∃ (p_r0 : Option Addr) (c_r0 : Nat) (T_r0 : Tb), (v = .slice p_r0 r0.length c_r0) ∧ St [] H G' [oseg p_r0 (tcells T_r0), tseg T_r0] ∧ Sb p_r0 r0.length c_r0 1 ∧ trows T_r0 = r0 ∧ TSb T_r0 := by
  refine ACall.bodyX (args := [.agg [.int .i64 a0_0, .slice p_a0_1 a0_1.length c_a0_1].toArray]) (N := 46) [(0, .agg [.int .i64 a0_0, .slice p_a0_1 a0_1.length c_a0_1].toArray)] (fun v G' => ∃ (p_r0 : Option Addr) (c_r0 : Nat) (T_r0 : Tb), (v = .slice p_r0 r0.length c_r0) ∧ St [] H G' [oseg p_r0 (tcells T_r0), tseg T_r0] ∧ Sb p_r0 r0.length c_r0 1 ∧ trows T_r0 = r0 ∧ TSb T_r0) Try.func147 rfl rfl rfl rfl ?_
  unfold D_spec_l01Meetings at hd
  have S0 : St [] H H [] := St.nil H
  refine AX.seq ?_
  refine AX.region ?_
  obtain ⟨G100, i101, hii101, hHG100, S102⟩ := S0.new (AObj.row false ([.int .i64 a0_0, .slice p_a0_1 a0_1.length c_a0_1]))
  refine AO.c rfl (s_box (i := i101) (cs := [.int .i64 a0_0, .slice p_a0_1 a0_1.length c_a0_1]) rfl hii101 rfl hHG100) ?_
  refine AO.p rfl (p_assign rfl) ?_
  refine AO.nil ?_
  refine AX.seq ?_
  refine AX.region ?_
  obtain ⟨G104, i105, hii105, hHG104, S106⟩ := S102.new (AObj.row false (tcells []))
  have S106t := S106.nilseg 1
  refine AO.c rfl (s_build0 (i := i105) Try.underlying43 Try.sizeOf58 hii105 hHG104) ?_
  refine AO.p rfl (p_assign rfl) ?_
  refine AO.nil ?_
  refine AX.seq ?_
  refine AX.seq ?_
  refine AX.region ?_
  refine AO.p rfl (p_assign rfl) ?_
  refine AO.nil ?_
  obtain ⟨r643, hl644, hd645⟩ := bnd_some hd
  refine AX.cutS (fun t' H' => ∃ (rs641 : List (List Int)) (p639 : Option Addr) (c640 : Nat) (T642 : Tb), rs641 = r643 ∧ St [] H H' [oseg p639 (tcells T642), tseg T642] ∧ trows T642 = rs641 ∧ TSb T642 ∧ Sb p639 (rs641.length) c640 1 ∧ Am.Sub [(3, .slice p639 rs641.length c640)] t') ?_ ?_
  · refine AX.block ?_
    refine AX.loopF (fun s' t' H' => ∃ (rs461 : List (List Int)) (x463 : Int) (p459 : Option Addr) (c460 : Nat) (T462 : Tb), (rs461, x463) = s' ∧ St [] H H' [[(i101, AObj.row false ([.int .i64 a0_0, .slice p_a0_1 a0_1.length c_a0_1]))], oseg p459 (tcells T462), tseg T462] ∧ trows T462 = rs461 ∧ TSb T462 ∧ Sb p459 (rs461.length) c460 1 ∧ Am.Sub [(1, .pointer (some ⟨i101, 0, none⟩)), (3, .slice p459 rs461.length c460), (4, .int .i64 x463)] t') hl644 ?_ ?_
    · skip
      have S646 := S106t.front 1 rfl
      have S647 := S646.front 1 rfl
      have S648 := S647.front 2 rfl
      exact ⟨[], 0, (some (Addr.mk i105 0 none)), 0, [], rfl, S648, rfl, TSb.nil, (Sb.lit (n := 0) (by decide)), Sub.cons' rfl rfl (Sub.cons' rfl rfl (Sub.cons' rfl rfl (Sub.nil _)))⟩
    · rintro n649 _ t' G653 ⟨rs461, x463, p459, c460, T462, rfl, S652, tT462, sT462, Bo458, hsub654⟩ o655 ho650 hk651
      refine AX.sub hsub654 ?_
      unfold D_spec_l01Meetings_s0 at ho650
      refine AX.seq ?_
      refine AX.seq ?_
      refine AX.region ?_
      refine AO.p rfl (p_move rfl) ?_
      refine AO.p rfl (s_fieldAddr Try.underlying37 rfl Try.sizeOf2 (by decide) rfl rfl) ?_
      refine AO.c rfl (s_load Try.isAgg2 rfl (row_cell (S652.get (k := 0) rfl) rfl)) ?_
      refine AO.p rfl (p_lss rfl rfl) ?_
      refine AO.nil ?_
      refine AX.cond rfl (fun c656 => ?_) (fun c656 => ?_)
      · have hd657 := bif_t c656 ho650
        refine AX.skip ?_
        refine AX.seq ?_
        refine AX.block ?_
        refine AX.seq ?_
        refine AX.region ?_
        refine AO.p rfl (s_fieldAddr Try.underlying37 rfl Try.sizeOf2 (by decide) rfl rfl) ?_
        refine AO.c rfl (s_load Try.isAgg2 rfl (row_cell (S652.get (k := 0) rfl) rfl)) ?_
        obtain ⟨k658, hd659⟩ := chk_some hd657
        obtain ⟨G660, i661, hii661, hHG660, S662⟩ := S652.new (AObj.row false (ints (List.replicate a0_0.toNat 0)))
        refine AO.c rfl (s_makeIntsE (i := i661) (by_ := 8) Try.underlying58 Try.typeInfo2 Try.sizeOf2 Try.zeroValue2 rfl rfl rfl rfl rfl k658 hii661 hHG660) ?_
        refine AO.p rfl (p_assign rfl) ?_
        refine AO.nil ?_
        refine AX.seq ?_
        refine AX.seq ?_
        refine AX.region ?_
        refine AO.p rfl (p_assign rfl) ?_
        refine AO.nil ?_
        obtain ⟨r756, hl757, hd758⟩ := bnd_some hd659
        refine AX.cutS (fun t' H' => ∃ (xs755 : List Int), xs755 = r756 ∧ St [] H H' [[(i101, AObj.row false ([.int .i64 a0_0, .slice p_a0_1 a0_1.length c_a0_1]))], oseg p459 (tcells T462), tseg T462, [(i661, AObj.row false (ints xs755))]] ∧ xs755.length = a0_0.toNat ∧ Am.Sub [(1, .pointer (some ⟨i101, 0, none⟩)), (3, .slice p459 rs461.length c460), (4, .int .i64 x463), (5, .slice (some (Addr.mk i661 0 none)) a0_0.toNat a0_0.toNat)] t') ?_ ?_
        · refine AX.block ?_
          refine AX.loopF (fun s' t' H' => ∃ (xs725 : List Int) (x726 : Int), (xs725, x726) = s' ∧ St [] H H' [[(i101, AObj.row false ([.int .i64 a0_0, .slice p_a0_1 a0_1.length c_a0_1]))], oseg p459 (tcells T462), tseg T462, [(i661, AObj.row false (ints xs725))]] ∧ xs725.length = a0_0.toNat ∧ Am.Sub [(1, .pointer (some ⟨i101, 0, none⟩)), (3, .slice p459 rs461.length c460), (4, .int .i64 x463), (5, .slice (some (Addr.mk i661 0 none)) a0_0.toNat a0_0.toNat), (6, .int .i64 x726)] t') hl757 ?_ ?_
          · skip
            have S759 := S662.front 0 rfl
            have S760 := S759.front 3 rfl
            have S761 := S760.front 3 rfl
            have S762 := S761.front 3 rfl
            exact ⟨(List.replicate a0_0.toNat 0), 0, rfl, S762, len_rep, Sub.cons' rfl rfl (Sub.cons' rfl rfl (Sub.cons' rfl rfl (Sub.cons' rfl rfl (Sub.cons' rfl rfl (Sub.nil _)))))⟩
          · rintro n763 _ t' G767 ⟨xs725, x726, rfl, S766, lxs725, hsub768⟩ o769 ho764 hk765
            refine AX.sub hsub768 ?_
            unfold D_spec_l01Meetings_s1 at ho764
            refine AX.seq ?_
            refine AX.seq ?_
            refine AX.region ?_
            refine AO.p rfl (p_move rfl) ?_
            refine AO.p rfl (s_fieldAddr Try.underlying37 rfl Try.sizeOf35 (by decide) rfl rfl) ?_
            refine AO.c rfl (s_load Try.isAgg35 rfl (row_cell (S766.get (k := 0) rfl) rfl)) ?_
            refine AO.p rfl (p_len_slice rfl Try.underlying35) ?_
            refine AO.p rfl (p_lss rfl rfl) ?_
            refine AO.nil ?_
            refine AX.cond rfl (fun c770 => ?_) (fun c770 => ?_)
            · have hd771 := bif_t c770 ho764
              refine AX.skip ?_
              refine AX.seq ?_
              refine AX.block ?_
              refine AX.seq ?_
              refine AX.region ?_
              refine AO.p rfl (s_fieldAddr Try.underlying37 rfl Try.sizeOf35 (by decide) rfl rfl) ?_
              refine AO.c rfl (s_load Try.isAgg35 rfl (row_cell (S766.get (k := 0) rfl) rfl)) ?_
              refine AO.p rfl (p_move rfl) ?_
              refine AO.p rfl (p_move rfl) ?_
              obtain ⟨k772, hd773⟩ := chk_some hd771
              refine AO.p rfl (s_indexV (q := off p_a0_1 + x726.toNat * 14) Try.underlying35 Try.sizeOf54 rfl ((S766.view v_a0_1).rowne a_a0_1 (by decide) (lt_len rfl (inR_lt k772))) rfl k772 rfl) ?_
              obtain ⟨k774, hd775⟩ := chk_some hd773
              refine AO.p rfl (s_indexAr (q := off p_a0_1 + x726.toNat * 14 + x463.toNat) Try.underlying54 Try.sizeOf2 rfl rfl k774 (o1 _ _)) ?_
              refine AO.c rfl (s_load Try.isAgg2 rfl ((S766.view v_a0_1).row a_a0_1 (lt_len rfl (inR_lt k772)) _ _ (ints_get (lt_len (rw_len a_a0_1 (lt_len rfl (inR_lt k772))) (inR_lt k774))))) ?_
              refine AO.p rfl (p_assign rfl) ?_
              refine AO.nil ?_
              refine AX.seq ?_
              refine AX.region ?_
              refine AO.p rfl (p_move rfl) ?_
              refine AO.p rfl (p_move rfl) ?_
              refine AO.p rfl (p_neq rfl rfl) ?_
              refine AO.nil ?_
              refine AX.cond rfl (fun c776 => ?_) (fun c776 => ?_)
              · have hd777 := bif_t c776 hd775
                refine AX.region ?_
                refine AO.p rfl (p_move rfl) ?_
                refine AO.p rfl (p_move rfl) ?_
                obtain ⟨k778, hd779⟩ := chk_some hd777
                refine AO.p rfl (s_indexV (q := (rd (rw_ a0_1 x726.toNat) x463.toNat).toNat) Try.underlying58 Try.sizeOf2 rfl rfl rfl k778 (z1 _)) ?_
                refine AO.c rfl (s_load Try.isAgg2 rfl (row_cell (S766.get (k := 3) rfl) (ints_get (lt_len lxs725 (inR_lt k778))))) ?_
                obtain ⟨k780, hd781⟩ := chk_some hd779
                refine AO.p rfl (p_addE rfl rfl k780) ?_
                obtain ⟨k782, hd783⟩ := chk_some hd781
                refine AO.p rfl (s_indexV (q := (rd (rw_ a0_1 x726.toNat) x463.toNat).toNat) Try.underlying58 Try.sizeOf2 rfl rfl rfl k782 (z1 _)) ?_
                obtain ⟨G784, hHG784, S785⟩ := S766.set (k := 3) (i := i661) rfl (AObj.row false (ints (xs725.set ((rd (rw_ a0_1 x726.toNat) x463.toNat).toNat) (rd xs725 ((rd (rw_ a0_1 x726.toNat) x463.toNat).toNat) + 1))))
                refine AO.s (s_store Try.sizeOf2 rfl rfl rfl (S766.get (k := 3) rfl) (lt_len (ints_len lxs725) (inR_lt k782)) ((congrArg (fun l => List.set _ _ (AObj.row false l)) (ints_set _ _ _)).trans hHG784)) ?_
                refine AO.nil ?_
                refine AX.region ?_
                refine AO.p rfl (p_move rfl) ?_
                obtain ⟨k786, hd787⟩ := chk_some hd783
                refine AO.p rfl (p_addE rfl rfl k786) ?_
                refine AO.p rfl (p_assign rfl) ?_
                refine AO.nil ?_
                obtain rfl := some_inj hd787
                have S789 := S785.front 3 rfl
                have S790 := S789.front 3 rfl
                have S791 := S790.front 3 rfl
                have S792 := S791.front 3 rfl
                exact ⟨((xs725.set ((rd (rw_ a0_1 x726.toNat) x463.toNat).toNat) (rd xs725 ((rd (rw_ a0_1 x726.toNat) x463.toNat).toNat) + 1)), x726 + 1), hk765, (xs725.set ((rd (rw_ a0_1 x726.toNat) x463.toNat).toNat) (rd xs725 ((rd (rw_ a0_1 x726.toNat) x463.toNat).toNat) + 1)), (x726 + 1), rfl, S792, (len_set lxs725), Sub.cons' rfl rfl (Sub.cons' rfl rfl (Sub.cons' rfl rfl (Sub.cons' rfl rfl (Sub.cons' rfl rfl (Sub.nil _)))))⟩
              · have hd793 := bif_f c776 hd775
                refine AX.skip ?_
                refine AX.region ?_
                refine AO.p rfl (p_move rfl) ?_
                obtain ⟨k794, hd795⟩ := chk_some hd793
                refine AO.p rfl (p_addE rfl rfl k794) ?_
                refine AO.p rfl (p_assign rfl) ?_
                refine AO.nil ?_
                obtain rfl := some_inj hd795
                have S797 := S766.front 3 rfl
                have S798 := S797.front 3 rfl
                have S799 := S798.front 3 rfl
                have S800 := S799.front 3 rfl
                exact ⟨(xs725, x726 + 1), hk765, xs725, (x726 + 1), rfl, S800, lxs725, Sub.cons' rfl rfl (Sub.cons' rfl rfl (Sub.cons' rfl rfl (Sub.cons' rfl rfl (Sub.cons' rfl rfl (Sub.nil _)))))⟩
            · have hd801 := bif_f c770 ho764
              refine AX.exit ?_
              obtain rfl := some_inj hd801
              have S802 := S766.front 3 rfl
              have S803 := S802.front 3 rfl
              have S804 := S803.front 3 rfl
              have S805 := S804.front 3 rfl
              exact ⟨xs725, hk765, S805, lxs725, Sub.cons' rfl rfl (Sub.cons' rfl rfl (Sub.cons' rfl rfl (Sub.cons' rfl rfl (Sub.nil _))))⟩
        · rintro t' G807 ⟨xs755, rfl, S806, lxs755, hsub808⟩
          refine ⟨_, hsub808, ?_⟩
          refine AX.region ?_
          refine AO.p rfl (p_move rfl) ?_
          refine AO.p rfl (p_move rfl) ?_
          obtain ⟨G809, i810, hii810, hHG809, S811⟩ := S806.new (AObj.row false (tcells [((some (Addr.mk i661 0 none)), a0_0.toNat, xs755)]))
          have S813 := (S811.front 4 rfl).tone (some (Addr.mk i661 0 none)) a0_0.toNat xs755 rfl
          refine AO.c rfl (s_buildT1 (i := i810) (X := [((some (Addr.mk i661 0 none)), a0_0.toNat, xs755)]) (n := a0_0.toNat) lxs755 Try.underlying43 Try.sizeOf58 Try.zeroValue58 rfl rfl hii810 hHG809) ?_
          obtain ⟨k814, hd815⟩ := chk_some hd758
          obtain ⟨p816, c817, G818, haG818, S819, Bp816⟩ := S813.app (k := 3) rfl Bo458 (tcells [((some (Addr.mk i661 0 none)), a0_0.toNat, xs755)]) 1 (tc_len1 rfl rfl)
          have S820 := S819.cellsEq (k := 3) (us' := tcells (T462 ++ [((some (Addr.mk i661 0 none)), a0_0.toNat, xs755)])) (tcells_app _ _).symm rfl
          have BS820 : Sb p816 ((rs461 ++ [xs755]).length) c817 1 := (show rs461.length + 1 = (rs461 ++ [xs755]).length from len_app (a := rs461) (b := [xs755]) rfl rfl) ▸ Bp816
          have S821 := S820.front 0 rfl
          have S822 := (S821.front 4 rfl).tmerge
          have S823 := S822.drop 1 rfl
          refine AO.c rfl (s_app (by_ := 24) (us := tcells T462) (vs := tcells [((some (Addr.mk i661 0 none)), a0_0.toNat, xs755)]) Try.underlying43 Try.underlying43 Try.typeInfo58 Try.sizeOf58 Try.zeroValue58 rfl rfl rfl rfl rfl rfl rfl (S813.buf (k := 3) rfl Bo458 (tc_len1 tT462 rfl)) (S813.oview (k := 1) rfl (Sb.lit (n := 1) (by decide)) (tc_len1 rfl rfl)) (tc_len1 rfl rfl) tcells_one k814 haG818 (show rs461.length + 1 = (rs461 ++ [xs755]).length from len_app (a := rs461) (b := [xs755]) rfl rfl)) ?_
          refine AO.p rfl (p_assign rfl) ?_
          refine AO.nil ?_
          refine AX.region ?_
          refine AO.p rfl (p_move rfl) ?_
          obtain ⟨k824, hd825⟩ := chk_some hd815
          refine AO.p rfl (p_addE rfl rfl k824) ?_
          refine AO.p rfl (p_assign rfl) ?_
          refine AO.nil ?_
          obtain rfl := some_inj hd825
          have S827 := S823.front 0 rfl
          have S828 := S827.front 2 rfl
          have S829 := S828.front 2 rfl
          exact ⟨((rs461 ++ [xs755]), x463 + 1), hk651, (rs461 ++ [xs755]), (x463 + 1), p816, c817, (T462 ++ [((some (Addr.mk i661 0 none)), a0_0.toNat, xs755)]), rfl, S829, (trows_apps tT462 rfl), (TSb.app sT462 (TSb.one (sb_len lxs755 (Sb.lit (mkcap k658))))), BS820, Sub.cons' rfl rfl (Sub.cons' rfl rfl (Sub.cons' rfl rfl (Sub.nil _)))⟩
      · have hd830 := bif_f c656 ho650
        refine AX.exit ?_
        obtain rfl := some_inj hd830
        have S831 := S652.front 2 rfl
        have S832 := S831.front 2 rfl
        have S833 := S832.keep 2
        exact ⟨rs461, p459, c460, T462, hk651, S833, tT462, sT462, Bo458, Sub.cons' rfl rfl (Sub.nil _)⟩
  · rintro t' G835 ⟨rs641, p639, c640, T642, rfl, S834, tT642, sT642, Bo638, hsub836⟩
    refine ⟨_, hsub836, ?_⟩
    refine AX.seq ?_
    refine AX.region ?_
    refine AO.p rfl (p_move rfl) ?_
    refine AO.p rfl (p_assign rfl) ?_
    refine AO.nil ?_
    refine AX.ret ?_
    obtain rfl := some_inj hd645
    have S837 := S834.front 1 rfl
    have S838 := S837.front 1 rfl
    exact ⟨.inr rfl, _, res1 rfl (rv_tmp rfl), p639, c640, T642, rfl, S838, Bo638, tT642, sT642⟩

set_option maxHeartbeats 4000000 in
theorem W_spec_l02Met (fu : Nat) (H : AHeap) (a0_0 : Int) (p_a0_1 : Option Addr) (c_a0_1 : Nat) (a0_1 : List (List Int)) (a_a0_1 : All 14 a0_1) (v_a0_1 : Vw H p_a0_1 a0_1.length c_a0_1 (ints a0_1.flatten)) (r0 : List (List Bool)) (hd : D_spec_l02Met fu a0_0 a0_1 = some r0) : ∃ v G', ACall Try.prog 107 [.agg [.int .i64 a0_0, .slice p_a0_1 a0_1.length c_a0_1].toArray] H v G' ∧ ∃ (p_r0 : Option Addr) (c_r0 : Nat) (T_r0 : TbB), (v = .slice p_r0 r0.length c_r0) ∧ St [] H G' [oseg p_r0 (tcellsB T_r0), tsegB T_r0] ∧ Sb p_r0 r0.length c_r0 1 ∧ trowsB T_r0 = r0 ∧ TSbB T_r0 := by
  refine ACall.bodyX (args := [.agg [.int .i64 a0_0, .slice p_a0_1 a0_1.length c_a0_1].toArray]) (N := 40) [(0, .agg [.int .i64 a0_0, .slice p_a0_1 a0_1.length c_a0_1].toArray)] (fun v G' => ∃ (p_r0 : Option Addr) (c_r0 : Nat) (T_r0 : TbB), (v = .slice p_r0 r0.length c_r0) ∧ St [] H G' [oseg p_r0 (tcellsB T_r0), tsegB T_r0] ∧ Sb p_r0 r0.length c_r0 1 ∧ trowsB T_r0 = r0 ∧ TSbB T_r0) Try.func107 rfl rfl rfl rfl ?_
  unfold D_spec_l02Met at hd
  have S0 : St [] H H [] := St.nil H
  refine AX.seq ?_
  refine AX.region ?_
  obtain ⟨G100, i101, hii101, hHG100, S102⟩ := S0.new (AObj.row false ([.int .i64 a0_0, .slice p_a0_1 a0_1.length c_a0_1]))
  refine AO.c rfl (s_box (i := i101) (cs := [.int .i64 a0_0, .slice p_a0_1 a0_1.length c_a0_1]) rfl hii101 rfl hHG100) ?_
  refine AO.p rfl (p_assign rfl) ?_
  refine AO.nil ?_
  refine AX.seq ?_
  refine AX.region ?_
  refine AO.c rfl (s_loadN (vs := [.int .i64 a0_0, .slice p_a0_1 a0_1.length c_a0_1]) Try.isAgg37 Try.sizeOf37 rfl rfl (row_cells (S102.get (k := 0) rfl))) ?_
  obtain ⟨rs104, h105, hd106⟩ := bnd_some hd
  obtain ⟨_, G115, hc114, p107, c108, T111, rfl, S116, B110, t112, s113⟩ := W_spec_l01Meetings fu G100 a0_0 p_a0_1 c_a0_1 a0_1 a_a0_1 (S102.view v_a0_1) rs104 h105
  have S117 := S102.call S116
  refine AO.c rfl (o_call (vs := [.agg [.int .i64 a0_0, .slice p_a0_1 a0_1.length c_a0_1].toArray]) rfl Try.call147 hc114) ?_
  obtain ⟨G118, i119, hii119, hHG118, S120⟩ := S117.new (AObj.row false (tcellsB []))
  have S120t : St [] H G118 (_ :: tsegB [] :: _) := S120.nilseg 1
  refine AO.c rfl (s_build0 (i := i119) Try.underlying109 Try.sizeOf111 hii119 hHG118) ?_
  refine AO.p rfl (p_assign rfl) ?_
  refine AO.p rfl (p_assign rfl) ?_
  refine AO.nil ?_
  refine AX.seq ?_
  refine AX.seq ?_
  refine AX.region ?_
  refine AO.p rfl (p_assign rfl) ?_
  refine AO.nil ?_
  obtain ⟨r710, hl711, hd712⟩ := bnd_some hd106
  refine AX.cutS (fun t' H' => ∃ (bss708 : List (List Bool)) (p706 : Option Addr) (c707 : Nat) (T709 : TbB), bss708 = r710 ∧ St [] H H' [oseg p706 (tcellsB T709), tsegB T709] ∧ trowsB T709 = bss708 ∧ TSbB T709 ∧ Sb p706 (bss708.length) c707 1 ∧ Am.Sub [(4, .slice p706 bss708.length c707)] t') ?_ ?_
  · refine AX.block ?_
    refine AX.loopF (fun s' t' H' => ∃ (bss513 : List (List Bool)) (x515 : Int) (p511 : Option Addr) (c512 : Nat) (T514 : TbB), (bss513, x515) = s' ∧ St [] H H' [oseg p107 (tcells T111), tseg T111, oseg p511 (tcellsB T514), tsegB T514] ∧ trowsB T514 = bss513 ∧ TSbB T514 ∧ Sb p511 (bss513.length) c512 1 ∧ Am.Sub [(3, .slice p107 rs104.length c108), (4, .slice p511 bss513.length c512), (5, .int .i64 x515)] t') hl711 ?_ ?_
    · skip
      have S713 := S120t.front 1 rfl
      have S714 := S713.front 1 rfl
      have S715 := S714.front 3 rfl
      have S716 := S715.front 3 rfl
      have S717 := S716.keep 4
      exact ⟨[], 0, (some (Addr.mk i119 0 none)), 0, [], rfl, S717, rfl, TSbB.nil, (Sb.lit (n := 0) (by decide)), Sub.cons' rfl rfl (Sub.cons' rfl rfl (Sub.cons' rfl rfl (Sub.nil _)))⟩
    · rintro n718 _ t' G722 ⟨bss513, x515, p511, c512, T514, rfl, S721, tT514, sT514, Bo510, hsub723⟩ o724 ho719 hk720
      refine AX.sub hsub723 ?_
      unfold D_spec_l02Met_s0 at ho719
      refine AX.seq ?_
      refine AX.seq ?_
      refine AX.region ?_
      refine AO.p rfl (p_move rfl) ?_
      refine AO.p rfl (p_move rfl) ?_
      refine AO.p rfl (p_len_slice rfl Try.underlying43) ?_
      refine AO.p rfl (p_lss rfl rfl) ?_
      refine AO.nil ?_
      refine AX.cond rfl (fun c725 => ?_) (fun c725 => ?_)
      · have hd726 := bif_t c725 ho719
        refine AX.skip ?_
        refine AX.seq ?_
        refine AX.block ?_
        refine AX.seq ?_
        refine AX.region ?_
        obtain ⟨G727, i728, hii728, hHG727, S729⟩ := S721.new (AObj.row false (bls []))
        refine AO.c rfl (s_build0 (i := i728) Try.underlying111 Try.sizeOf4 hii728 hHG727) ?_
        refine AO.p rfl (p_assign rfl) ?_
        refine AO.nil ?_
        refine AX.seq ?_
        refine AX.seq ?_
        refine AX.region ?_
        refine AO.p rfl (p_assign rfl) ?_
        refine AO.nil ?_
        obtain ⟨r838, hl839, hd840⟩ := bnd_some hd726
        refine AX.cutS (fun t' H' => ∃ (bs837 : List Bool) (p835 : Option Addr) (c836 : Nat), bs837 = r838 ∧ St [] H H' [oseg p107 (tcells T111), tseg T111, oseg p511 (tcellsB T514), tsegB T514, oseg p835 (bls bs837)] ∧ Sb p835 (bs837.length) c836 1 ∧ Am.Sub [(3, .slice p107 rs104.length c108), (4, .slice p511 bss513.length c512), (5, .int .i64 x515), (6, .slice p835 bs837.length c836)] t') ?_ ?_
        · refine AX.block ?_
          refine AX.loopF (fun s' t' H' => ∃ (bs802 : List Bool) (x803 : Int) (p800 : Option Addr) (c801 : Nat), (bs802, x803) = s' ∧ St [] H H' [oseg p107 (tcells T111), tseg T111, oseg p511 (tcellsB T514), tsegB T514, oseg p800 (bls bs802)] ∧ Sb p800 (bs802.length) c801 1 ∧ Am.Sub [(3, .slice p107 rs104.length c108), (4, .slice p511 bss513.length c512), (5, .int .i64 x515), (6, .slice p800 bs802.length c801), (7, .int .i64 x803)] t') hl839 ?_ ?_
          · skip
            have S841 := S729.front 0 rfl
            have S842 := S841.front 4 rfl
            have S843 := S842.front 4 rfl
            have S844 := S843.front 4 rfl
            have S845 := S844.front 4 rfl
            exact ⟨[], 0, (some (Addr.mk i728 0 none)), 0, rfl, S845, (Sb.lit (n := 0) (by decide)), Sub.cons' rfl rfl (Sub.cons' rfl rfl (Sub.cons' rfl rfl (Sub.cons' rfl rfl (Sub.cons' rfl rfl (Sub.nil _)))))⟩
          · rintro n846 _ t' G850 ⟨bs802, x803, p800, c801, rfl, S849, Bo799, hsub851⟩ o852 ho847 hk848
            refine AX.sub hsub851 ?_
            unfold D_spec_l02Met_s1 at ho847
            refine AX.seq ?_
            refine AX.seq ?_
            refine AX.region ?_
            refine AO.p rfl (p_move rfl) ?_
            refine AO.p rfl (p_move rfl) ?_
            refine AO.p rfl (p_len_slice rfl Try.underlying43) ?_
            refine AO.p rfl (p_lss rfl rfl) ?_
            refine AO.nil ?_
            refine AX.cond rfl (fun c853 => ?_) (fun c853 => ?_)
            · have hd854 := bif_t c853 ho847
              refine AX.skip ?_
              refine AX.seq ?_
              refine AX.block ?_
              refine AX.region ?_
              refine AO.p rfl (p_move rfl) ?_
              refine AO.p rfl (p_move rfl) ?_
              refine AO.p rfl (p_move rfl) ?_
              obtain ⟨k855, hd856⟩ := chk_some hd854
              refine AO.p rfl (s_indexV (q := x515.toNat) Try.underlying43 Try.sizeOf58 rfl (B110.at (inR_pos k855)) rfl k855 (z1 _)) ?_
              obtain ⟨p857, c858, e859, f860⟩ := tget t112 (lt_len rfl (inR_lt k855))
              refine AO.c rfl (s_load Try.isAgg58 rfl (row_cell (S849.oat (k := 0) rfl (B110.at (inR_pos k855))) f860)) ?_
              refine AO.p rfl (p_move rfl) ?_
              obtain ⟨k861, hd862⟩ := chk_some hd856
              refine AO.p rfl (s_indexV (q := off p857 + x803.toNat) Try.underlying58 Try.sizeOf2 rfl ((TVw.at (S849.oviewT (k := 1) rfl s113) e859).p (ints_get (lt_len rfl (inR_lt k861)))) rfl k861 (o1 _ _)) ?_
              refine AO.c rfl (s_load Try.isAgg2 rfl ((TVw.at (S849.oviewT (k := 1) rfl s113) e859).get _ _ (ints_get (lt_len rfl (inR_lt k861))))) ?_
              refine AO.p rfl (p_gtr rfl rfl) ?_
              obtain ⟨G863, i864, hii864, hHG863, S865⟩ := S849.new (AObj.row false (bls [decide (0 < rd (rw_ rs104 x515.toNat) x803.toNat)]))
              refine AO.c rfl (s_buildZ (i := i864) (vs := [(0, .bool (decide (0 < rd (rw_ rs104 x515.toNat) x803.toNat)))]) (cs := bls [decide (0 < rd (rw_ rs104 x515.toNat) x803.toNat)]) Try.underlying111 Try.sizeOf4 Try.zeroValue4 rfl rfl rfl (by decide) rfl rfl hii864 hHG863) ?_
              obtain ⟨k867, hd868⟩ := chk_some hd862
              obtain ⟨p869, c870, G871, haG871, S872, Bp869⟩ := S865.app (k := 5) rfl Bo799 (bls [decide (0 < rd (rw_ rs104 x515.toNat) x803.toNat)]) 1 (bls_len1 rfl)
              have S873 := S872.cellsEq (k := 5) (us' := bls (bs802 ++ [decide (0 < rd (rw_ rs104 x515.toNat) x803.toNat)])) (bls_app _ _) rfl
              have BS873 : Sb p869 ((bs802 ++ [decide (0 < rd (rw_ rs104 x515.toNat) x803.toNat)]).length) c870 1 := (show bs802.length + 1 = (bs802 ++ [decide (0 < rd (rw_ rs104 x515.toNat) x803.toNat)]).length from len_app (a := bs802) (b := [decide (0 < rd (rw_ rs104 x515.toNat) x803.toNat)]) rfl rfl) ▸ Bp869
              have S874 := S873.drop 0 rfl
              refine AO.c rfl (s_app (by_ := 1) (us := bls bs802) (vs := bls [decide (0 < rd (rw_ rs104 x515.toNat) x803.toNat)]) Try.underlying111 Try.underlying111 Try.typeInfo4 Try.sizeOf4 Try.zeroValue4 rfl rfl rfl rfl rfl rfl rfl (S865.buf (k := 5) rfl Bo799 (bls_len1 rfl)) (S865.oview (k := 0) rfl (Sb.lit (n := 1) (by decide)) (bls_len1 rfl)) (bls_len1 rfl) bls_one k867 haG871 (show bs802.length + 1 = (bs802 ++ [decide (0 < rd (rw_ rs104 x515.toNat) x803.toNat)]).length from len_app (a := bs802) (b := [decide (0 < rd (rw_ rs104 x515.toNat) x803.toNat)]) rfl rfl)) ?_
              refine AO.p rfl (p_assign rfl) ?_
              refine AO.nil ?_
              refine AX.region ?_
              refine AO.p rfl (p_move rfl) ?_
              obtain ⟨k875, hd876⟩ := chk_some hd868
              refine AO.p rfl (p_addE rfl rfl k875) ?_
              refine AO.p rfl (p_assign rfl) ?_
              refine AO.nil ?_
              obtain rfl := some_inj hd876
              have S878 := S874.front 4 rfl
              have S879 := S878.front 4 rfl
              have S880 := S879.front 4 rfl
              have S881 := S880.front 4 rfl
              have S882 := S881.front 4 rfl
              exact ⟨((bs802 ++ [decide (0 < rd (rw_ rs104 x515.toNat) x803.toNat)]), x803 + 1), hk848, (bs802 ++ [decide (0 < rd (rw_ rs104 x515.toNat) x803.toNat)]), (x803 + 1), p869, c870, rfl, S882, BS873, Sub.cons' rfl rfl (Sub.cons' rfl rfl (Sub.cons' rfl rfl (Sub.cons' rfl rfl (Sub.cons' rfl rfl (Sub.nil _)))))⟩
            · have hd883 := bif_f c853 ho847
              refine AX.exit ?_
              obtain rfl := some_inj hd883
              have S884 := S849.front 4 rfl
              have S885 := S884.front 4 rfl
              have S886 := S885.front 4 rfl
              have S887 := S886.front 4 rfl
              have S888 := S887.front 4 rfl
              exact ⟨bs802, p800, c801, hk848, S888, Bo799, Sub.cons' rfl rfl (Sub.cons' rfl rfl (Sub.cons' rfl rfl (Sub.cons' rfl rfl (Sub.nil _))))⟩
        · rintro t' G890 ⟨bs837, p835, c836, rfl, S889, Bo834, hsub891⟩
          refine ⟨_, hsub891, ?_⟩
          refine AX.region ?_
          refine AO.p rfl (p_move rfl) ?_
          refine AO.p rfl (p_move rfl) ?_
          obtain ⟨G892, i893, hii893, hHG892, S894⟩ := S889.new (AObj.row false (tcellsB [(p835, c836, bs837)]))
          have S896 := (S894.front 5 rfl).toneB p835 c836 bs837 rfl
          refine AO.c rfl (s_buildT1B (i := i893) (X := [(p835, c836, bs837)]) (n := bs837.length) rfl Try.underlying109 Try.sizeOf111 Try.zeroValue111 rfl rfl hii893 hHG892) ?_
          obtain ⟨k897, hd898⟩ := chk_some hd840
          obtain ⟨p899, c900, G901, haG901, S902, Bp899⟩ := S896.app (k := 4) rfl Bo510 (tcellsB [(p835, c836, bs837)]) 1 (tc_len1B rfl rfl)
          have S903 := S902.cellsEq (k := 4) (us' := tcellsB (T514 ++ [(p835, c836, bs837)])) (tcells_appB _ _).symm rfl
          have BS903 : Sb p899 ((bss513 ++ [bs837]).length) c900 1 := (show bss513.length + 1 = (bss513 ++ [bs837]).length from len_app (a := bss513) (b := [bs837]) rfl rfl) ▸ Bp899
          have S904 := S903.front 0 rfl
          have S905 := S904.front 5 rfl
          have S906 := S905.tmergeB
          have S907 := S906.drop 1 rfl
          refine AO.c rfl (s_app (by_ := 24) (us := tcellsB T514) (vs := tcellsB [(p835, c836, bs837)]) Try.underlying109 Try.underlying109 Try.typeInfo111 Try.sizeOf111 Try.zeroValue111 rfl rfl rfl rfl rfl rfl rfl (S896.buf (k := 4) rfl Bo510 (tc_len1B tT514 rfl)) (S896.oview (k := 1) rfl (Sb.lit (n := 1) (by decide)) (tc_len1B rfl rfl)) (tc_len1B rfl rfl) tcells_oneB k897 haG901 (show bss513.length + 1 = (bss513 ++ [bs837]).length from len_app (a := bss513) (b := [bs837]) rfl rfl)) ?_
          refine AO.p rfl (p_assign rfl) ?_
          refine AO.nil ?_
          refine AX.region ?_
          refine AO.p rfl (p_move rfl) ?_
          obtain ⟨k908, hd909⟩ := chk_some hd898
          refine AO.p rfl (p_addE rfl rfl k908) ?_
          refine AO.p rfl (p_assign rfl) ?_
          refine AO.nil ?_
          obtain rfl := some_inj hd909
          have S911 := S907.front 0 rfl
          have S912 := S911.front 3 rfl
          have S913 := S912.front 3 rfl
          have S914 := S913.front 3 rfl
          exact ⟨((bss513 ++ [bs837]), x515 + 1), hk720, (bss513 ++ [bs837]), (x515 + 1), p899, c900, (T514 ++ [(p835, c836, bs837)]), rfl, S914, (trows_appsB tT514 rfl), (TSbB.app sT514 (TSbB.one (sb_len rfl Bo834))), BS903, Sub.cons' rfl rfl (Sub.cons' rfl rfl (Sub.cons' rfl rfl (Sub.nil _)))⟩
      · have hd915 := bif_f c725 ho719
        refine AX.exit ?_
        obtain rfl := some_inj hd915
        have S916 := S721.front 3 rfl
        have S917 := S916.front 3 rfl
        have S918 := S917.keep 2
        exact ⟨bss513, p511, c512, T514, hk720, S918, tT514, sT514, Bo510, Sub.cons' rfl rfl (Sub.nil _)⟩
  · rintro t' G920 ⟨bss708, p706, c707, T709, rfl, S919, tT709, sT709, Bo705, hsub921⟩
    refine ⟨_, hsub921, ?_⟩
    refine AX.seq ?_
    refine AX.region ?_
    refine AO.p rfl (p_move rfl) ?_
    refine AO.p rfl (p_assign rfl) ?_
    refine AO.nil ?_
    refine AX.ret ?_
    obtain rfl := some_inj hd712
    have S922 := S919.front 1 rfl
    have S923 := S922.front 1 rfl
    exact ⟨.inr rfl, _, res1 rfl (rv_tmp rfl), p706, c707, T709, rfl, S923, Bo705, tT709, sT709⟩

set_option maxHeartbeats 4000000 in
theorem W_spec_l02Match : ∀ (fu : Nat) (H : AHeap) (a0 : Int) (p_a1 : Option Addr) (c_a1 : Nat) (T_a1 : TbB) (a1 : List (List Bool)) (t_a1 : trowsB T_a1 = a1) (v_a1 : Vw H p_a1 a1.length c_a1 (tcellsB T_a1)) (w_a1 : TVwB H T_a1) (a2 : List Int) (h_a2 : a2.length = 14) (r0 : List (List Int)) (hd : D_spec_l02Match fu a0 a1 a2 = some r0), ∃ v G', ACall Try.prog 109 [.int .i64 a0, .slice p_a1 a1.length c_a1, .agg (ints a2).toArray] H v G' ∧ ∃ (p_r0 : Option Addr) (c_r0 : Nat), (v = .slice p_r0 r0.length c_r0) ∧ St [] H G' [oseg p_r0 (ints r0.flatten)] ∧ Sb p_r0 r0.length c_r0 14 ∧ All 14 r0 := by
  intro fu
  induction fu with
  | zero => intros; rename_i hd; cases hd
  | succ fu ih =>
  intro H a0 p_a1 c_a1 T_a1 a1 t_a1 v_a1 w_a1 a2 h_a2 r0 hd
  refine ACall.bodyX (args := [.int .i64 a0, .slice p_a1 a1.length c_a1, .agg (ints a2).toArray]) (N := 65) [(0, .int .i64 a0), (1, .slice p_a1 a1.length c_a1), (2, .agg (ints a2).toArray)] (fun v G' => ∃ (p_r0 : Option Addr) (c_r0 : Nat), (v = .slice p_r0 r0.length c_r0) ∧ St [] H G' [oseg p_r0 (ints r0.flatten)] ∧ Sb p_r0 r0.length c_r0 14 ∧ All 14 r0) Try.func109 rfl rfl rfl rfl ?_
  unfold D_spec_l02Match at hd
  have S0 : St [] H H [] := St.nil H
  refine AX.seq ?_
  refine AX.region ?_
  obtain ⟨G100, i101, hii101, hHG100, S102⟩ := S0.new (AObj.row false (ints a2))
  refine AO.c rfl (s_box (i := i101) (cs := ints a2) rfl hii101 rfl hHG100) ?_
  refine AO.p rfl (p_assign rfl) ?_
  refine AO.nil ?_
  refine AX.seq ?_
  refine AX.region ?_
  refine AO.p rfl (p_assign rfl) ?_
  refine AO.nil ?_
  obtain ⟨r180, hl181, hd182⟩ := bnd_some hd
  refine AX.cut (fun t' H' => ∃ (x179 : Int), x179 = r180 ∧ St [] H H' [[(i101, AObj.row false (ints a2))]] ∧ Am.Sub [(0, .int .i64 a0), (1, .slice p_a1 a1.length c_a1), (5, .pointer (some ⟨i101, 0, none⟩)), (7, .int .i64 x179)] t') ?_ ?_
  · refine AX.block ?_
    refine AX.loopF (fun s' t' H' => ∃ (x149 : Int), x149 = s' ∧ St [] H H' [[(i101, AObj.row false (ints a2))]] ∧ Am.Sub [(0, .int .i64 a0), (1, .slice p_a1 a1.length c_a1), (5, .pointer (some ⟨i101, 0, none⟩)), (7, .int .i64 x149)] t') hl181 ?_ ?_
    · skip
      have S183 := S102.front 0 rfl
      exact ⟨0, rfl, S183, Sub.cons' rfl rfl (Sub.cons' rfl rfl (Sub.cons' rfl rfl (Sub.cons' rfl rfl (Sub.nil _))))⟩
    · rintro n184 _ t' G188 ⟨x149, rfl, S187, hsub189⟩ o190 ho185 hk186
      refine AX.sub hsub189 ?_
      unfold D_spec_l02Match_s0 at ho185
      refine AX.seq ?_
      obtain ⟨r198, hb199, hd200⟩ := bnd_some ho185
      refine AX.cut (fun t' H' => ∃ (b197 : Bool), b197 = r198 ∧ St [] H H' [[(i101, AObj.row false (ints a2))]] ∧ Am.Sub [(0, .int .i64 a0), (1, .slice p_a1 a1.length c_a1), (5, .pointer (some ⟨i101, 0, none⟩)), (7, .int .i64 x149), (20, .bool b197)] t') ?_ ?_
      · skip
        refine AX.region ?_
        refine AO.p rfl (p_move rfl) ?_
        refine AO.p rfl (p_move rfl) ?_
        refine AO.p rfl (p_lss rfl rfl) ?_
        refine AO.p rfl (p_move rfl) ?_
        refine AO.cases (d := 14) rfl (fun c201 => ?_) (fun c201 => ?_)
        · have hd202 := bif_t c201 hb199
          refine AO.gp rfl rfl rfl (p_move rfl) ?_
          obtain ⟨k203, hd204⟩ := chk_some hd202
          refine AO.gp rfl rfl rfl (s_indexAr (q := x149.toNat) Try.underlying54 Try.sizeOf2 rfl rfl k203 (z1 _)) ?_
          refine AO.gc rfl rfl rfl (s_load Try.isAgg2 rfl (row_cell (S187.get (k := 0) rfl) (ints_get (lt_len h_a2 (inR_lt k203))))) ?_
          refine AO.gp rfl rfl rfl (p_move rfl) ?_
          refine AO.gp rfl rfl rfl (p_neq rfl rfl) ?_
          refine AO.p rfl (p_pickT rfl rfl) ?_
          refine AO.nil ?_
          have S205 := S187.front 0 rfl
          exact ⟨(!decide (rd a2 x149.toNat = x149)), (some_inj hd204), S205, Sub.cons' rfl rfl (Sub.cons' rfl rfl (Sub.cons' rfl rfl (Sub.cons' rfl rfl (Sub.cons' rfl rfl (Sub.nil _)))))⟩
        · have hd206 := bif_f c201 hb199
          refine AO.gn rfl rfl rfl ?_
          refine AO.gn rfl rfl rfl ?_
          refine AO.gn rfl rfl rfl ?_
          refine AO.gn rfl rfl rfl ?_
          refine AO.gn rfl rfl rfl ?_
          refine AO.p rfl (p_pickF rfl rfl) ?_
          refine AO.nil ?_
          have S207 := S187.front 0 rfl
          exact ⟨false, (some_inj hd206), S207, Sub.cons' rfl rfl (Sub.cons' rfl rfl (Sub.cons' rfl rfl (Sub.cons' rfl rfl (Sub.cons' rfl rfl (Sub.nil _)))))⟩
      · rintro t' G209 ⟨b197, rfl, S208, hsub210⟩
        refine AX.sub hsub210 ?_
        refine AX.cond rfl (fun c211 => ?_) (fun c211 => ?_)
        · have hd212 := bif_t c211 hd200
          refine AX.skip ?_
          refine AX.block ?_
          refine AX.region ?_
          refine AO.p rfl (p_move rfl) ?_
          obtain ⟨k213, hd214⟩ := chk_some hd212
          refine AO.p rfl (p_addE rfl rfl k213) ?_
          refine AO.p rfl (p_assign rfl) ?_
          refine AO.nil ?_
          obtain rfl := some_inj hd214
          have S216 := S208.front 0 rfl
          exact ⟨x149 + 1, hk186, (x149 + 1), rfl, S216, Sub.cons' rfl rfl (Sub.cons' rfl rfl (Sub.cons' rfl rfl (Sub.cons' rfl rfl (Sub.nil _))))⟩
        · have hd217 := bif_f c211 hd200
          refine AX.exit ?_
          obtain rfl := some_inj hd217
          have S218 := S208.front 0 rfl
          exact ⟨x149, hk186, S218, Sub.cons' rfl rfl (Sub.cons' rfl rfl (Sub.cons' rfl rfl (Sub.cons' rfl rfl (Sub.nil _))))⟩
  · rintro t' G220 ⟨x179, rfl, S219, hsub221⟩
    refine AX.sub hsub221 ?_
    refine AX.seq ?_
    refine AX.seq ?_
    refine AX.region ?_
    refine AO.p rfl (p_move rfl) ?_
    refine AO.p rfl (p_move rfl) ?_
    refine AO.p rfl (p_eql rfl rfl) ?_
    refine AO.nil ?_
    refine AX.cond rfl (fun c222 => ?_) (fun c222 => ?_)
    · have hd223 := bif_t c222 hd182
      refine AX.seq ?_
      refine AX.region ?_
      refine AO.c rfl (s_loadN (vs := ints a2) Try.isAgg54 Try.sizeOf54 rfl (ints_len h_a2) (row_cells (S219.get (k := 0) rfl))) ?_
      obtain ⟨G224, i225, hii225, hHG224, S226⟩ := S219.new (AObj.row false (ints [a2].flatten))
      refine AO.c rfl (s_build1 (i := i225) (r := a2) (zr := List.replicate 14 0) Try.underlying35 Try.sizeOf54 Try.zeroValue54 rfl rfl (by decide) (by decide) rfl h_a2 hii225 hHG224) ?_
      refine AO.p rfl (p_assign rfl) ?_
      refine AO.nil ?_
      refine AX.ret ?_
      obtain rfl := some_inj hd223
      have S228 := S226.front 0 rfl
      have S229 := S228.keep 1
      exact ⟨.inr rfl, _, res1 rfl (rv_tmp rfl), (some (Addr.mk i225 0 none)), 1, (by rw [show List.length [a2] = 1 from rfl]), S229, (by rw [show List.length [a2] = 1 from rfl]; exact (Sb.lit (n := 1) (by decide))), (all_one h_a2)⟩
    · have hd230 := bif_f c222 hd182
      refine AX.skip ?_
      refine AX.seq ?_
      refine AX.region ?_
      obtain ⟨G231, i232, hii232, hHG231, S233⟩ := S219.new (AObj.row false (ints [].flatten))
      refine AO.c rfl (s_build0 (i := i232) Try.underlying35 Try.sizeOf54 hii232 hHG231) ?_
      refine AO.p rfl (p_assign rfl) ?_
      refine AO.nil ?_
      refine AX.seq ?_
      refine AX.seq ?_
      refine AX.region ?_
      refine AO.p rfl (p_move rfl) ?_
      obtain ⟨k235, hd236⟩ := chk_some hd230
      refine AO.p rfl (p_addE rfl rfl k235) ?_
      refine AO.p rfl (p_assign rfl) ?_
      refine AO.nil ?_
      obtain ⟨r513, hl514, hd515⟩ := bnd_some hd236
      refine AX.cutS (fun t' H' => ∃ (rs512 : List (List Int)) (p510 : Option Addr) (c511 : Nat), rs512 = r513 ∧ St [] H H' [oseg p510 (ints rs512.flatten)] ∧ All 14 rs512 ∧ Sb p510 (rs512.length) c511 14 ∧ Am.Sub [(8, .slice p510 rs512.length c511)] t') ?_ ?_
      · refine AX.block ?_
        refine AX.loopF (fun s' t' H' => ∃ (rs421 : List (List Int)) (x422 : Int) (p419 : Option Addr) (c420 : Nat), (rs421, x422) = s' ∧ St [] H H' [[(i101, AObj.row false (ints a2))], oseg p419 (ints rs421.flatten)] ∧ All 14 rs421 ∧ Sb p419 (rs421.length) c420 14 ∧ Am.Sub [(0, .int .i64 a0), (1, .slice p_a1 a1.length c_a1), (5, .pointer (some ⟨i101, 0, none⟩)), (7, .int .i64 x179), (8, .slice p419 rs421.length c420), (9, .int .i64 x422)] t') hl514 ?_ ?_
        · skip
          have S516 := S233.front 0 rfl
          have S517 := S516.front 1 rfl
          exact ⟨[], (x179 + 1), (some (Addr.mk i232 0 none)), 0, rfl, S517, all_nil, (Sb.lit (n := 0) (by decide)), Sub.cons' rfl rfl (Sub.cons' rfl rfl (Sub.cons' rfl rfl (Sub.cons' rfl rfl (Sub.cons' rfl rfl (Sub.cons' rfl rfl (Sub.nil _))))))⟩
        · rintro n518 _ t' G522 ⟨rs421, x422, p419, c420, rfl, S521, ars421, Bo418, hsub523⟩ o524 ho519 hk520
          refine AX.sub hsub523 ?_
          unfold D_spec_l02Match_s1 at ho519
          refine AX.seq ?_
          refine AX.seq ?_
          refine AX.region ?_
          refine AO.p rfl (p_move rfl) ?_
          refine AO.p rfl (p_move rfl) ?_
          refine AO.p rfl (p_lss rfl rfl) ?_
          refine AO.nil ?_
          refine AX.cond rfl (fun c525 => ?_) (fun c525 => ?_)
          · have hd526 := bif_t c525 ho519
            refine AX.skip ?_
            refine AX.seq ?_
            refine AX.block ?_
            obtain ⟨r543, hb544, hd545⟩ := bnd_some hd526
            refine AX.cut (fun t' H' => ∃ (b542 : Bool), b542 = r543 ∧ St [] H H' [[(i101, AObj.row false (ints a2))], oseg p419 (ints rs421.flatten)] ∧ Am.Sub [(0, .int .i64 a0), (1, .slice p_a1 a1.length c_a1), (5, .pointer (some ⟨i101, 0, none⟩)), (7, .int .i64 x179), (8, .slice p419 rs421.length c420), (9, .int .i64 x422), (50, .bool b542)] t') ?_ ?_
            · skip
              refine AX.region ?_
              refine AO.p rfl (p_move rfl) ?_
              obtain ⟨k546, hd547⟩ := chk_some hb544
              refine AO.p rfl (s_indexAr (q := x422.toNat) Try.underlying54 Try.sizeOf2 rfl rfl k546 (z1 _)) ?_
              refine AO.c rfl (s_load Try.isAgg2 rfl (row_cell (S521.get (k := 0) rfl) (ints_get (lt_len h_a2 (inR_lt k546))))) ?_
              refine AO.p rfl (p_move rfl) ?_
              refine AO.p rfl (p_eql rfl rfl) ?_
              refine AO.p rfl (p_move rfl) ?_
              refine AO.cases (d := 41) rfl (fun c548 => ?_) (fun c548 => ?_)
              · have hd549 := bif_t c548 hd547
                refine AO.gp rfl rfl rfl (p_move rfl) ?_
                refine AO.gp rfl rfl rfl (p_move rfl) ?_
                obtain ⟨k550, hd551⟩ := chk_some hd549
                obtain ⟨p552, c553, e554, f555⟩ := tgetB t_a1 (lt_len rfl (inR_lt k550))
                refine AO.gp rfl rfl rfl (s_indexV (q := off p_a1 + x179.toNat) Try.underlying109 Try.sizeOf111 rfl ((S521.view v_a1).p f555) rfl k550 (o1 _ _)) ?_
                refine AO.gc rfl rfl rfl (s_load Try.isAgg111 rfl ((S521.view v_a1).get _ _ f555)) ?_
                refine AO.gp rfl rfl rfl (p_move rfl) ?_
                obtain ⟨k556, hd557⟩ := chk_some hd551
                refine AO.gp rfl rfl rfl (s_indexV (q := off p552 + x422.toNat) Try.underlying111 Try.sizeOf4 rfl ((TVwB.at (S521.tviewB w_a1) e554).p (bls_get (lt_len rfl (inR_lt k556)))) rfl k556 (o1 _ _)) ?_
                refine AO.gc rfl rfl rfl (s_load Try.isAgg4 rfl ((TVwB.at (S521.tviewB w_a1) e554).get _ _ (bls_get (lt_len rfl (inR_lt k556))))) ?_
                refine AO.gp rfl rfl rfl (p_not rfl) ?_
                refine AO.p rfl (p_pickT rfl rfl) ?_
                refine AO.nil ?_
                have S558 := S521.front 1 rfl
                have S559 := S558.front 1 rfl
                exact ⟨(!(rdb (rwB a1 x179.toNat) x422.toNat)), (some_inj hd557), S559, Sub.cons' rfl rfl (Sub.cons' rfl rfl (Sub.cons' rfl rfl (Sub.cons' rfl rfl (Sub.cons' rfl rfl (Sub.cons' rfl rfl (Sub.cons' rfl rfl (Sub.nil _)))))))⟩
              · have hd560 := bif_f c548 hd547
                refine AO.gn rfl rfl rfl ?_
                refine AO.gn rfl rfl rfl ?_
                refine AO.gn rfl rfl rfl ?_
                refine AO.gn rfl rfl rfl ?_
                refine AO.gn rfl rfl rfl ?_
                refine AO.gn rfl rfl rfl ?_
                refine AO.gn rfl rfl rfl ?_
                refine AO.gn rfl rfl rfl ?_
                refine AO.p rfl (p_pickF rfl rfl) ?_
                refine AO.nil ?_
                have S561 := S521.front 1 rfl
                have S562 := S561.front 1 rfl
                exact ⟨false, (some_inj hd560), S562, Sub.cons' rfl rfl (Sub.cons' rfl rfl (Sub.cons' rfl rfl (Sub.cons' rfl rfl (Sub.cons' rfl rfl (Sub.cons' rfl rfl (Sub.cons' rfl rfl (Sub.nil _)))))))⟩
            · rintro t' G564 ⟨b542, rfl, S563, hsub565⟩
              refine AX.sub hsub565 ?_
              refine AX.cond rfl (fun c566 => ?_) (fun c566 => ?_)
              · have hd567 := bif_t c566 hd545
                refine AX.seq ?_
                refine AX.region ?_
                refine AO.c rfl (s_loadN (vs := ints a2) Try.isAgg54 Try.sizeOf54 rfl (ints_len h_a2) (row_cells (S563.get (k := 0) rfl))) ?_
                obtain ⟨G568, i569, hii569, hHG568, S570⟩ := S563.new (AObj.row false (ints (List.replicate 14 0)))
                refine AO.c rfl (s_alloc (i := i569) (cs := ints (List.replicate 14 0)) Try.zeroValue54 rfl rfl hii569 hHG568) ?_
                obtain ⟨G572, hHG572, S573⟩ := S570.set (k := 0) (i := i569) rfl (AObj.row false (ints a2))
                refine AO.s (s_storeAll (vs := ints a2) Try.sizeOf54 rfl rfl ints_one (S570.get (k := 0) rfl) (ints_len h_a2) (ints_len len_rep) hHG572) ?_
                refine AO.nil ?_
                refine AX.seq ?_
                refine AX.region ?_
                refine AO.p rfl (p_move rfl) ?_
                refine AO.p rfl (p_move rfl) ?_
                obtain ⟨k574, hd575⟩ := chk_some hd567
                refine AO.p rfl (s_indexAr (q := x179.toNat) Try.underlying54 Try.sizeOf2 rfl rfl k574 (z1 _)) ?_
                obtain ⟨G576, hHG576, S577⟩ := S573.set (k := 0) (i := i569) rfl (AObj.row false (ints (a2.set x179.toNat x422)))
                refine AO.s (s_store Try.sizeOf2 rfl rfl rfl (S573.get (k := 0) rfl) (lt_len (ints_len h_a2) (inR_lt k574)) ((congrArg (fun l => List.set _ _ (AObj.row false l)) (ints_set _ _ _)).trans hHG576)) ?_
                refine AO.nil ?_
                refine AX.seq ?_
                refine AX.region ?_
                refine AO.p rfl (p_move rfl) ?_
                refine AO.p rfl (p_move rfl) ?_
                obtain ⟨k578, hd579⟩ := chk_some hd575
                refine AO.p rfl (s_indexAr (q := x422.toNat) Try.underlying54 Try.sizeOf2 rfl rfl k578 (z1 _)) ?_
                obtain ⟨G580, hHG580, S581⟩ := S577.set (k := 0) (i := i569) rfl (AObj.row false (ints ((a2.set x179.toNat x422).set x422.toNat x179)))
                refine AO.s (s_store Try.sizeOf2 rfl rfl rfl (S577.get (k := 0) rfl) (lt_len (ints_len (len_set h_a2)) (inR_lt k578)) ((congrArg (fun l => List.set _ _ (AObj.row false l)) (ints_set _ _ _)).trans hHG580)) ?_
                refine AO.nil ?_
                refine AX.region ?_
                refine AO.p rfl (p_move rfl) ?_
                refine AO.p rfl (p_move rfl) ?_
                refine AO.p rfl (p_move rfl) ?_
                refine AO.c rfl (s_loadN (vs := ints ((a2.set x179.toNat x422).set x422.toNat x179)) Try.isAgg54 Try.sizeOf54 rfl (ints_len (len_set (len_set h_a2))) (row_cells (S581.get (k := 0) rfl))) ?_
                obtain ⟨rs582, h583, hd584⟩ := bnd_some hd579
                obtain ⟨_, G591, hc590, p585, c586, rfl, S592, B588, a589⟩ := ih G580 a0 p_a1 c_a1 T_a1 a1 t_a1 (S581.view v_a1) (S581.tviewB w_a1) ((a2.set x179.toNat x422).set x422.toNat x179) (len_set (len_set h_a2)) rs582 h583
                have S593 := S581.call S592
                refine AO.c rfl (o_call (vs := [.int .i64 a0, .slice p_a1 a1.length c_a1, .agg (ints ((a2.set x179.toNat x422).set x422.toNat x179)).toArray]) rfl Try.call109 hc590) ?_
                obtain ⟨k594, hd595⟩ := chk_some hd584
                obtain ⟨p596, c597, G598, haG598, S599, Bp596⟩ := S593.app (k := 3) rfl Bo418 (ints rs582.flatten) rs582.length (flat_len1 a589 rfl)
                have S600 := S599.cellsEq (k := 3) (us' := ints (rs421 ++ rs582).flatten) (intsf_app _ _) rfl
                have BS600 : Sb p596 ((rs421 ++ rs582).length) c597 14 := (show rs421.length + rs582.length = (rs421 ++ rs582).length from len_app (a := rs421) (b := rs582) rfl rfl) ▸ Bp596
                have S601 := S600.drop 0 rfl
                refine AO.c rfl (s_app (by_ := 112) (us := ints rs421.flatten) (vs := ints rs582.flatten) Try.underlying35 Try.underlying35 Try.typeInfo54 Try.sizeOf54 Try.zeroValue54 rfl rfl rfl rfl rfl rfl rfl (S593.buf (k := 3) rfl Bo418 (flat_len1 ars421 rfl)) (S593.oview (k := 0) rfl B588 (flat_len1 a589 rfl)) (flat_len1 a589 rfl) ints_one k594 haG598 (show rs421.length + rs582.length = (rs421 ++ rs582).length from len_app (a := rs421) (b := rs582) rfl rfl)) ?_
                refine AO.p rfl (p_assign rfl) ?_
                refine AO.nil ?_
                refine AX.region ?_
                refine AO.p rfl (p_move rfl) ?_
                obtain ⟨k602, hd603⟩ := chk_some hd595
                refine AO.p rfl (p_addE rfl rfl k602) ?_
                refine AO.p rfl (p_assign rfl) ?_
                refine AO.nil ?_
                obtain rfl := some_inj hd603
                have S605 := S601.front 2 rfl
                have S606 := S605.front 2 rfl
                have S607 := S606.keep 2
                exact ⟨((rs421 ++ rs582), x422 + 1), hk520, (rs421 ++ rs582), (x422 + 1), p596, c597, rfl, S607, (all_app ars421 a589), BS600, Sub.cons' rfl rfl (Sub.cons' rfl rfl (Sub.cons' rfl rfl (Sub.cons' rfl rfl (Sub.cons' rfl rfl (Sub.cons' rfl rfl (Sub.nil _))))))⟩
              · have hd608 := bif_f c566 hd545
                refine AX.skip ?_
                refine AX.region ?_
                refine AO.p rfl (p_move rfl) ?_
                obtain ⟨k609, hd610⟩ := chk_some hd608
                refine AO.p rfl (p_addE rfl rfl k609) ?_
                refine AO.p rfl (p_assign rfl) ?_
                refine AO.nil ?_
                obtain rfl := some_inj hd610
                have S612 := S563.front 1 rfl
                have S613 := S612.front 1 rfl
                exact ⟨(rs421, x422 + 1), hk520, rs421, (x422 + 1), p419, c420, rfl, S613, ars421, Bo418, Sub.cons' rfl rfl (Sub.cons' rfl rfl (Sub.cons' rfl rfl (Sub.cons' rfl rfl (Sub.cons' rfl rfl (Sub.cons' rfl rfl (Sub.nil _))))))⟩
          · have hd614 := bif_f c525 ho519
            refine AX.exit ?_
            obtain rfl := some_inj hd614
            have S615 := S521.front 1 rfl
            have S616 := S615.keep 1
            exact ⟨rs421, p419, c420, hk520, S616, ars421, Bo418, Sub.cons' rfl rfl (Sub.nil _)⟩
      · rintro t' G618 ⟨rs512, p510, c511, rfl, S617, ars512, Bo509, hsub619⟩
        refine ⟨_, hsub619, ?_⟩
        refine AX.seq ?_
        refine AX.region ?_
        refine AO.p rfl (p_move rfl) ?_
        refine AO.p rfl (p_assign rfl) ?_
        refine AO.nil ?_
        refine AX.ret ?_
        obtain rfl := some_inj hd515
        have S620 := S617.front 0 rfl
        exact ⟨.inr rfl, _, res1 rfl (rv_tmp rfl), p510, c511, rfl, S620, Bo509, ars512⟩

set_option maxHeartbeats 4000000 in
theorem W_spec_l01Free (fu : Nat) (H : AHeap) (a0 : Int) (r0 : List Int) (hd : D_spec_l01Free fu a0 = some r0) : ACall Try.prog 108 [.int .i64 a0] H (.agg (ints r0).toArray) H ∧ r0.length = 14 := by
  refine ACall.bodyPF (N := 15) [(0, .int .i64 a0)] Try.func108 rfl rfl rfl rfl ?_
  unfold D_spec_l01Free at hd
  have S0 : St [] H H [] := St.nil H
  refine AX.seq ?_
  refine AX.region ?_
  obtain ⟨G100, i101, hii101, hHG100, S102⟩ := S0.new (AObj.row false (ints (List.replicate 14 0)))
  refine AO.c rfl (s_alloc (i := i101) (cs := ints (List.replicate 14 0)) Try.zeroValue54 rfl rfl hii101 hHG100) ?_
  refine AO.nil ?_
  refine AX.seq ?_
  refine AX.region ?_
  refine AO.p rfl (p_buildZ (z := ints (List.replicate 14 0)) Try.underlying54 Try.sizeOf2 Try.zeroValue54 rfl) ?_
  obtain ⟨G104, i105, hii105, hHG104, S106⟩ := S102.new (AObj.row false (ints (List.replicate 14 0)))
  refine AO.c rfl (s_alloc (i := i105) (cs := ints (List.replicate 14 0)) Try.zeroValue54 rfl rfl hii105 hHG104) ?_
  obtain ⟨G108, hHG108, S109⟩ := S106.set (k := 0) (i := i105) rfl (AObj.row false (ints (List.replicate 14 0)))
  refine AO.s (s_storeAll (vs := ints (List.replicate 14 0)) Try.sizeOf54 rfl rfl ints_one (S106.get (k := 0) rfl) (ints_len len_rep) (ints_len len_rep) hHG108) ?_
  refine AO.nil ?_
  refine AX.seq ?_
  refine AX.seq ?_
  refine AX.region ?_
  refine AO.p rfl (p_assign rfl) ?_
  refine AO.nil ?_
  obtain ⟨r157, hl158, hd159⟩ := bnd_some hd
  refine AX.cutS (fun t' H' => ∃ (xs156 : List Int), xs156 = r157 ∧ St [] H H' [[(i101, AObj.row false (ints (List.replicate 14 0)))], [(i105, AObj.row false (ints xs156))]] ∧ xs156.length = 14 ∧ Am.Sub [(2, .pointer (some ⟨i101, 0, none⟩)), (3, .pointer (some ⟨i105, 0, none⟩))] t') ?_ ?_
  · refine AX.block ?_
    refine AX.loopF (fun s' t' H' => ∃ (xs140 : List Int) (x141 : Int), (xs140, x141) = s' ∧ St [] H H' [[(i101, AObj.row false (ints (List.replicate 14 0)))], [(i105, AObj.row false (ints xs140))]] ∧ xs140.length = 14 ∧ Am.Sub [(0, .int .i64 a0), (2, .pointer (some ⟨i101, 0, none⟩)), (3, .pointer (some ⟨i105, 0, none⟩)), (4, .int .i64 x141)] t') hl158 ?_ ?_
    · skip
      have S160 := S109.front 0 rfl
      have S161 := S160.front 1 rfl
      exact ⟨(List.replicate 14 0), 0, rfl, S161, len_rep, Sub.cons' rfl rfl (Sub.cons' rfl rfl (Sub.cons' rfl rfl (Sub.cons' rfl rfl (Sub.nil _))))⟩
    · rintro n162 _ t' G166 ⟨xs140, x141, rfl, S165, lxs140, hsub167⟩ o168 ho163 hk164
      refine AX.sub hsub167 ?_
      unfold D_spec_l01Free_s0 at ho163
      refine AX.seq ?_
      refine AX.seq ?_
      refine AX.region ?_
      refine AO.p rfl (p_move rfl) ?_
      refine AO.p rfl (p_move rfl) ?_
      refine AO.p rfl (p_lss rfl rfl) ?_
      refine AO.nil ?_
      refine AX.cond rfl (fun c169 => ?_) (fun c169 => ?_)
      · have hd170 := bif_t c169 ho163
        refine AX.skip ?_
        refine AX.seq ?_
        refine AX.block ?_
        refine AX.region ?_
        refine AO.p rfl (p_move rfl) ?_
        refine AO.p rfl (p_move rfl) ?_
        obtain ⟨k171, hd172⟩ := chk_some hd170
        refine AO.p rfl (s_indexAr (q := x141.toNat) Try.underlying54 Try.sizeOf2 rfl rfl k171 (z1 _)) ?_
        obtain ⟨G173, hHG173, S174⟩ := S165.set (k := 1) (i := i105) rfl (AObj.row false (ints (xs140.set x141.toNat x141)))
        refine AO.s (s_store Try.sizeOf2 rfl rfl rfl (S165.get (k := 1) rfl) (lt_len (ints_len lxs140) (inR_lt k171)) ((congrArg (fun l => List.set _ _ (AObj.row false l)) (ints_set _ _ _)).trans hHG173)) ?_
        refine AO.nil ?_
        refine AX.region ?_
        refine AO.p rfl (p_move rfl) ?_
        obtain ⟨k175, hd176⟩ := chk_some hd172
        refine AO.p rfl (p_addE rfl rfl k175) ?_
        refine AO.p rfl (p_assign rfl) ?_
        refine AO.nil ?_
        obtain rfl := some_inj hd176
        have S178 := S174.front 1 rfl
        have S179 := S178.front 1 rfl
        exact ⟨((xs140.set x141.toNat x141), x141 + 1), hk164, (xs140.set x141.toNat x141), (x141 + 1), rfl, S179, (len_set lxs140), Sub.cons' rfl rfl (Sub.cons' rfl rfl (Sub.cons' rfl rfl (Sub.cons' rfl rfl (Sub.nil _))))⟩
      · have hd180 := bif_f c169 ho163
        refine AX.exit ?_
        obtain rfl := some_inj hd180
        have S181 := S165.front 1 rfl
        have S182 := S181.front 1 rfl
        exact ⟨xs140, hk164, S182, lxs140, Sub.cons' rfl rfl (Sub.cons' rfl rfl (Sub.nil _))⟩
  · rintro t' G184 ⟨xs156, rfl, S183, lxs156, hsub185⟩
    refine ⟨_, hsub185, ?_⟩
    refine AX.seq ?_
    refine AX.region ?_
    refine AO.c rfl (s_loadN (vs := ints xs156) Try.isAgg54 Try.sizeOf54 rfl (ints_len lxs156) (row_cells (S183.get (k := 1) rfl))) ?_
    obtain ⟨G186, hHG186, S187⟩ := S183.set (k := 0) (i := i101) rfl (AObj.row false (ints xs156))
    refine AO.s (s_storeAll (vs := ints xs156) Try.sizeOf54 rfl rfl ints_one (S183.get (k := 0) rfl) (ints_len lxs156) (ints_len len_rep) hHG186) ?_
    refine AO.nil ?_
    refine AX.ret ?_
    obtain rfl := some_inj hd159
    exact ⟨.inr rfl, _, res1 rfl (rv_cell (vs := ints xs156) rfl Try.isAgg54 Try.sizeOf54 (ints_len lxs156) (row_cells (S187.get (k := 0) rfl))), rfl, (flat_arr _), S187.hold, lxs156⟩

set_option maxHeartbeats 4000000 in
theorem W_impl_free (fu : Nat) (H : AHeap) (a0 : Int) (r0 : List Int) (hd : D_impl_free fu a0 = some r0) : ACall Try.prog 148 [.int .i64 a0] H (.agg (ints r0).toArray) H ∧ r0.length = 14 := by
  refine ACall.bodyPF (N := 15) [(0, .int .i64 a0)] Try.func148 rfl rfl rfl rfl ?_
  unfold D_impl_free at hd
  have S0 : St [] H H [] := St.nil H
  refine AX.seq ?_
  refine AX.region ?_
  obtain ⟨G100, i101, hii101, hHG100, S102⟩ := S0.new (AObj.row false (ints (List.replicate 14 0)))
  refine AO.c rfl (s_alloc (i := i101) (cs := ints (List.replicate 14 0)) Try.zeroValue54 rfl rfl hii101 hHG100) ?_
  refine AO.nil ?_
  refine AX.seq ?_
  refine AX.region ?_
  refine AO.p rfl (p_buildZ (z := ints (List.replicate 14 0)) Try.underlying54 Try.sizeOf2 Try.zeroValue54 rfl) ?_
  obtain ⟨G104, i105, hii105, hHG104, S106⟩ := S102.new (AObj.row false (ints (List.replicate 14 0)))
  refine AO.c rfl (s_alloc (i := i105) (cs := ints (List.replicate 14 0)) Try.zeroValue54 rfl rfl hii105 hHG104) ?_
  obtain ⟨G108, hHG108, S109⟩ := S106.set (k := 0) (i := i105) rfl (AObj.row false (ints (List.replicate 14 0)))
  refine AO.s (s_storeAll (vs := ints (List.replicate 14 0)) Try.sizeOf54 rfl rfl ints_one (S106.get (k := 0) rfl) (ints_len len_rep) (ints_len len_rep) hHG108) ?_
  refine AO.nil ?_
  refine AX.seq ?_
  refine AX.seq ?_
  refine AX.region ?_
  refine AO.p rfl (p_move rfl) ?_
  refine AO.p rfl (p_move rfl) ?_
  refine AO.nil ?_
  obtain ⟨r157, hl158, hd159⟩ := bnd_some hd
  refine AX.cutS (fun t' H' => ∃ (xs156 : List Int), xs156 = r157 ∧ St [] H H' [[(i101, AObj.row false (ints (List.replicate 14 0)))], [(i105, AObj.row false (ints xs156))]] ∧ xs156.length = 14 ∧ Am.Sub [(2, .pointer (some ⟨i101, 0, none⟩)), (3, .pointer (some ⟨i105, 0, none⟩))] t') ?_ ?_
  · refine AX.block ?_
    refine AX.loopF (fun s' t' H' => ∃ (xs140 : List Int) (x141 : Int), (xs140, x141) = s' ∧ St [] H H' [[(i101, AObj.row false (ints (List.replicate 14 0)))], [(i105, AObj.row false (ints xs140))]] ∧ xs140.length = 14 ∧ Am.Sub [(2, .pointer (some ⟨i101, 0, none⟩)), (3, .pointer (some ⟨i105, 0, none⟩)), (6, .int .i64 a0), (7, .int .i64 x141)] t') hl158 ?_ ?_
    · skip
      have S160 := S109.front 0 rfl
      have S161 := S160.front 1 rfl
      exact ⟨(List.replicate 14 0), 0, rfl, S161, len_rep, Sub.cons' rfl rfl (Sub.cons' rfl rfl (Sub.cons' rfl rfl (Sub.cons' rfl rfl (Sub.nil _))))⟩
    · rintro n162 _ t' G166 ⟨xs140, x141, rfl, S165, lxs140, hsub167⟩ o168 ho163 hk164
      refine AX.sub hsub167 ?_
      unfold D_impl_free_s0 at ho163
      refine AX.seq ?_
      refine AX.region ?_
      refine AO.p rfl (p_lss rfl rfl) ?_
      refine AO.nil ?_
      refine AX.seq ?_
      refine AX.cond rfl (fun c169 => ?_) (fun c169 => ?_)
      · have hd170 := bif_t c169 ho163
        refine AX.skip ?_
        refine AX.seq ?_
        refine AX.block ?_
        refine AX.seq ?_
        refine AX.region ?_
        refine AO.p rfl (p_move rfl) ?_
        refine AO.p rfl (p_assign rfl) ?_
        refine AO.nil ?_
        refine AX.region ?_
        refine AO.p rfl (p_move rfl) ?_
        refine AO.p rfl (p_move rfl) ?_
        obtain ⟨k171, hd172⟩ := chk_some hd170
        refine AO.p rfl (s_indexAr (q := x141.toNat) Try.underlying54 Try.sizeOf2 rfl rfl k171 (z1 _)) ?_
        obtain ⟨G173, hHG173, S174⟩ := S165.set (k := 1) (i := i105) rfl (AObj.row false (ints (xs140.set x141.toNat x141)))
        refine AO.s (s_store Try.sizeOf2 rfl rfl rfl (S165.get (k := 1) rfl) (lt_len (ints_len lxs140) (inR_lt k171)) ((congrArg (fun l => List.set _ _ (AObj.row false l)) (ints_set _ _ _)).trans hHG173)) ?_
        refine AO.nil ?_
        refine AX.region ?_
        obtain ⟨k175, hd176⟩ := chk_some hd172
        refine AO.p rfl (p_addE rfl rfl k175) ?_
        refine AO.p rfl (p_move rfl) ?_
        refine AO.nil ?_
        obtain rfl := some_inj hd176
        have S178 := S174.front 1 rfl
        have S179 := S178.front 1 rfl
        exact ⟨((xs140.set x141.toNat x141), x141 + 1), hk164, (xs140.set x141.toNat x141), (x141 + 1), rfl, S179, (len_set lxs140), Sub.cons' rfl rfl (Sub.cons' rfl rfl (Sub.cons' rfl rfl (Sub.cons' rfl rfl (Sub.nil _))))⟩
      · have hd180 := bif_f c169 ho163
        refine AX.exit ?_
        obtain rfl := some_inj hd180
        have S181 := S165.front 1 rfl
        have S182 := S181.front 1 rfl
        exact ⟨xs140, hk164, S182, lxs140, Sub.cons' rfl rfl (Sub.cons' rfl rfl (Sub.nil _))⟩
  · rintro t' G184 ⟨xs156, rfl, S183, lxs156, hsub185⟩
    refine ⟨_, hsub185, ?_⟩
    refine AX.seq ?_
    refine AX.region ?_
    refine AO.c rfl (s_loadN (vs := ints xs156) Try.isAgg54 Try.sizeOf54 rfl (ints_len lxs156) (row_cells (S183.get (k := 1) rfl))) ?_
    obtain ⟨G186, hHG186, S187⟩ := S183.set (k := 0) (i := i101) rfl (AObj.row false (ints xs156))
    refine AO.s (s_storeAll (vs := ints xs156) Try.sizeOf54 rfl rfl ints_one (S183.get (k := 0) rfl) (ints_len lxs156) (ints_len len_rep) hHG186) ?_
    refine AO.nil ?_
    refine AX.ret ?_
    obtain rfl := some_inj hd159
    exact ⟨.inr rfl, _, res1 rfl (rv_cell (vs := ints xs156) rfl Try.isAgg54 Try.sizeOf54 (ints_len lxs156) (row_cells (S187.get (k := 0) rfl))), rfl, (flat_arr _), S187.hold, lxs156⟩

set_option maxHeartbeats 4000000 in
theorem W_impl_square (fu : Nat) (H : AHeap) (a0 : Int) (r0 : List (List Int)) (hd : D_impl_square fu a0 = some r0) : ∃ v G', ACall Try.prog 54 [.int .i64 a0] H v G' ∧ ∃ (p_r0 : Option Addr) (c_r0 : Nat) (T_r0 : Tb), (v = .slice p_r0 r0.length c_r0) ∧ St [] H G' [oseg p_r0 (tcells T_r0), tseg T_r0] ∧ Sb p_r0 r0.length c_r0 1 ∧ trows T_r0 = r0 ∧ TSb T_r0 := by
  refine ACall.bodyX (args := [.int .i64 a0]) (N := 15) [(0, .int .i64 a0)] (fun v G' => ∃ (p_r0 : Option Addr) (c_r0 : Nat) (T_r0 : Tb), (v = .slice p_r0 r0.length c_r0) ∧ St [] H G' [oseg p_r0 (tcells T_r0), tseg T_r0] ∧ Sb p_r0 r0.length c_r0 1 ∧ trows T_r0 = r0 ∧ TSb T_r0) Try.func54 rfl rfl rfl rfl ?_
  unfold D_impl_square at hd
  have S0 : St [] H H [] := St.nil H
  refine AX.seq ?_
  refine AX.region ?_
  refine AO.p rfl (p_assign rfl) ?_
  refine AO.nil ?_
  refine AX.seq ?_
  refine AX.region ?_
  obtain ⟨G100, i101, hii101, hHG100, S102⟩ := S0.new (AObj.row false (tcells []))
  have S102t := S102.nilseg 1
  refine AO.c rfl (s_build0 (i := i101) Try.underlying43 Try.sizeOf58 hii101 hHG100) ?_
  refine AO.p rfl (p_assign rfl) ?_
  refine AO.nil ?_
  refine AX.seq ?_
  refine AX.seq ?_
  refine AX.region ?_
  refine AO.p rfl (p_move rfl) ?_
  refine AO.p rfl (p_move rfl) ?_
  refine AO.nil ?_
  obtain ⟨r209, hl210, hd211⟩ := bnd_some hd
  refine AX.cutS (fun t' H' => ∃ (rs207 : List (List Int)) (p205 : Option Addr) (c206 : Nat) (T208 : Tb), rs207 = r209 ∧ St [] H H' [oseg p205 (tcells T208), tseg T208] ∧ trows T208 = rs207 ∧ TSb T208 ∧ Sb p205 (rs207.length) c206 1 ∧ Am.Sub [(3, .slice p205 rs207.length c206)] t') ?_ ?_
  · refine AX.block ?_
    refine AX.loopF (fun s' t' H' => ∃ (rs172 : List (List Int)) (x174 : Int) (p170 : Option Addr) (c171 : Nat) (T173 : Tb), (rs172, x174) = s' ∧ St [] H H' [oseg p170 (tcells T173), tseg T173] ∧ trows T173 = rs172 ∧ TSb T173 ∧ Sb p170 (rs172.length) c171 1 ∧ Am.Sub [(0, .int .i64 a0), (3, .slice p170 rs172.length c171), (5, .int .i64 a0), (6, .int .i64 x174)] t') hl210 ?_ ?_
    · skip
      have S212 := S102t.front 1 rfl
      have S213 := S212.front 1 rfl
      exact ⟨[], 0, (some (Addr.mk i101 0 none)), 0, [], rfl, S213, rfl, TSb.nil, (Sb.lit (n := 0) (by decide)), Sub.cons' rfl rfl (Sub.cons' rfl rfl (Sub.cons' rfl rfl (Sub.cons' rfl rfl (Sub.nil _))))⟩
    · rintro n214 _ t' G218 ⟨rs172, x174, p170, c171, T173, rfl, S217, tT173, sT173, Bo169, hsub219⟩ o220 ho215 hk216
      refine AX.sub hsub219 ?_
      unfold D_impl_square_s0 at ho215
      refine AX.seq ?_
      refine AX.region ?_
      refine AO.p rfl (p_lss rfl rfl) ?_
      refine AO.nil ?_
      refine AX.seq ?_
      refine AX.cond rfl (fun c221 => ?_) (fun c221 => ?_)
      · have hd222 := bif_t c221 ho215
        refine AX.skip ?_
        refine AX.seq ?_
        refine AX.block ?_
        refine AX.region ?_
        refine AO.p rfl (p_move rfl) ?_
        refine AO.p rfl (p_move rfl) ?_
        obtain ⟨k223, hd224⟩ := chk_some hd222
        obtain ⟨G225, i226, hii226, hHG225, S227⟩ := S217.new (AObj.row false (ints (List.replicate a0.toNat 0)))
        refine AO.c rfl (s_makeIntsE (i := i226) (by_ := 8) Try.underlying58 Try.typeInfo2 Try.sizeOf2 Try.zeroValue2 rfl rfl rfl rfl rfl k223 hii226 hHG225) ?_
        obtain ⟨G229, i230, hii230, hHG229, S231⟩ := S227.new (AObj.row false (tcells [((some (Addr.mk i226 0 none)), a0.toNat, (List.replicate a0.toNat 0))]))
        have S233 := (S231.front 1 rfl).tone (some (Addr.mk i226 0 none)) a0.toNat (List.replicate a0.toNat 0) rfl
        refine AO.c rfl (s_buildT1 (i := i230) (X := [((some (Addr.mk i226 0 none)), a0.toNat, (List.replicate a0.toNat 0))]) (n := a0.toNat) len_rep Try.underlying43 Try.sizeOf58 Try.zeroValue58 rfl rfl hii230 hHG229) ?_
        obtain ⟨k234, hd235⟩ := chk_some hd224
        obtain ⟨p236, c237, G238, haG238, S239, Bp236⟩ := S233.app (k := 2) rfl Bo169 (tcells [((some (Addr.mk i226 0 none)), a0.toNat, (List.replicate a0.toNat 0))]) 1 (tc_len1 rfl rfl)
        have S240 := S239.cellsEq (k := 2) (us' := tcells (T173 ++ [((some (Addr.mk i226 0 none)), a0.toNat, (List.replicate a0.toNat 0))])) (tcells_app _ _).symm rfl
        have BS240 : Sb p236 ((rs172 ++ [(List.replicate a0.toNat 0)]).length) c237 1 := (show rs172.length + 1 = (rs172 ++ [(List.replicate a0.toNat 0)]).length from len_app (a := rs172) (b := [(List.replicate a0.toNat 0)]) rfl rfl) ▸ Bp236
        have S241 := S240.front 0 rfl
        have S242 := (S241.front 3 rfl).tmerge
        have S243 := S242.drop 1 rfl
        refine AO.c rfl (s_app (by_ := 24) (us := tcells T173) (vs := tcells [((some (Addr.mk i226 0 none)), a0.toNat, (List.replicate a0.toNat 0))]) Try.underlying43 Try.underlying43 Try.typeInfo58 Try.sizeOf58 Try.zeroValue58 rfl rfl rfl rfl rfl rfl rfl (S233.buf (k := 2) rfl Bo169 (tc_len1 tT173 rfl)) (S233.oview (k := 1) rfl (Sb.lit (n := 1) (by decide)) (tc_len1 rfl rfl)) (tc_len1 rfl rfl) tcells_one k234 haG238 (show rs172.length + 1 = (rs172 ++ [(List.replicate a0.toNat 0)]).length from len_app (a := rs172) (b := [(List.replicate a0.toNat 0)]) rfl rfl)) ?_
        refine AO.p rfl (p_assign rfl) ?_
        refine AO.nil ?_
        refine AX.region ?_
        obtain ⟨k244, hd245⟩ := chk_some hd235
        refine AO.p rfl (p_addE rfl rfl k244) ?_
        refine AO.p rfl (p_move rfl) ?_
        refine AO.nil ?_
        obtain rfl := some_inj hd245
        have S247 := S243.front 0 rfl
        have S248 := S247.front 1 rfl
        exact ⟨((rs172 ++ [(List.replicate a0.toNat 0)]), x174 + 1), hk216, (rs172 ++ [(List.replicate a0.toNat 0)]), (x174 + 1), p236, c237, (T173 ++ [((some (Addr.mk i226 0 none)), a0.toNat, (List.replicate a0.toNat 0))]), rfl, S248, (trows_apps tT173 rfl), (TSb.app sT173 (TSb.one (sb_len len_rep (Sb.lit (mkcap k223))))), BS240, Sub.cons' rfl rfl (Sub.cons' rfl rfl (Sub.cons' rfl rfl (Sub.cons' rfl rfl (Sub.nil _))))⟩
      · have hd249 := bif_f c221 ho215
        refine AX.exit ?_
        obtain rfl := some_inj hd249
        have S250 := S217.front 1 rfl
        have S251 := S250.front 1 rfl
        exact ⟨rs172, p170, c171, T173, hk216, S251, tT173, sT173, Bo169, Sub.cons' rfl rfl (Sub.nil _)⟩
  · rintro t' G253 ⟨rs207, p205, c206, T208, rfl, S252, tT208, sT208, Bo204, hsub254⟩
    refine ⟨_, hsub254, ?_⟩
    refine AX.seq ?_
    refine AX.region ?_
    refine AO.p rfl (p_move rfl) ?_
    refine AO.p rfl (p_assign rfl) ?_
    refine AO.nil ?_
    refine AX.ret ?_
    obtain rfl := some_inj hd211
    have S255 := S252.front 1 rfl
    have S256 := S255.front 1 rfl
    exact ⟨.inr rfl, _, res1 rfl (rv_tmp rfl), p205, c206, T208, rfl, S256, Bo204, tT208, sT208⟩

set_option maxHeartbeats 4000000 in
theorem W_impl_mark (fu : Nat) (H : AHeap) (p_a0 : Option Addr) (c_a0 : Nat) (T_a0 : Tb) (a0 : List (List Int)) (t_a0 : trows T_a0 = a0) (s_a0 : Sb p_a0 a0.length c_a0 1) (z_a0 : TSb T_a0) (a1 : List Int) (h_a1 : a1.length = 14) (a2 : Int) (hn : ((oseg p_a0 (tcells T_a0) ++ (tseg T_a0)).map (·.1)).Nodup) (ho : ∀ x ∈ oseg p_a0 (tcells T_a0) ++ (tseg T_a0), x.1 < H.length ∧ hget H x.1 = x.2) (m_a0 : List (List Int)) (hd : D_impl_mark fu a0 a1 a2 = some m_a0) : ∃ v G', ACall Try.prog 112 [.slice p_a0 a0.length c_a0, .agg (ints a1).toArray, .int .i64 a2] H v G' ∧ ∃ (T_a0' : Tb), (v = .tuple #[]) ∧ St ((oseg p_a0 (tcells T_a0) ++ (tseg T_a0)).map (·.1)) H G' [oseg p_a0 (tcells T_a0'), tseg T_a0'] ∧ trows T_a0' = m_a0 ∧ TSb T_a0' ∧ m_a0.length = a0.length := by
  refine ACall.bodyX (args := [.slice p_a0 a0.length c_a0, .agg (ints a1).toArray, .int .i64 a2]) (N := 25) [(0, .slice p_a0 a0.length c_a0), (1, .agg (ints a1).toArray), (2, .int .i64 a2)] (fun v G' => ∃ (T_a0' : Tb), (v = .tuple #[]) ∧ St ((oseg p_a0 (tcells T_a0) ++ (tseg T_a0)).map (·.1)) H G' [oseg p_a0 (tcells T_a0'), tseg T_a0'] ∧ trows T_a0' = m_a0 ∧ TSb T_a0' ∧ m_a0.length = a0.length) Try.func112 rfl rfl rfl rfl ?_
  unfold D_impl_mark at hd
  have S0 : St ((oseg p_a0 (tcells T_a0) ++ (tseg T_a0)).map (·.1)) H H [oseg p_a0 (tcells T_a0), tseg T_a0] := (St.init (l := oseg p_a0 (tcells T_a0) ++ (tseg T_a0)) hn ho).same (by simp)
  refine AX.seq ?_
  refine AX.region ?_
  obtain ⟨G100, i101, hii101, hHG100, S102⟩ := S0.new (AObj.row false (ints a1))
  refine AO.c rfl (s_box (i := i101) (cs := ints a1) rfl hii101 rfl hHG100) ?_
  refine AO.nil ?_
  refine AX.seq ?_
  refine AX.region ?_
  refine AO.p rfl (p_move rfl) ?_
  refine AO.p rfl (p_len_slice rfl Try.underlying43) ?_
  refine AO.p rfl (p_move rfl) ?_
  refine AO.nil ?_
  obtain ⟨r192, hl193, hd194⟩ := bnd_some hd
  refine AX.cutS (fun t' H' => ∃ (rs190 : List (List Int)) (T191 : Tb), rs190 = r192 ∧ St ((oseg p_a0 (tcells T_a0) ++ (tseg T_a0)).map (·.1)) H H' [oseg p_a0 (tcells T191), tseg T191] ∧ rs190.length = a0.length ∧ trows T191 = rs190 ∧ TSb T191 ∧ Am.Sub [] t') ?_ ?_
  · refine AX.block ?_
    refine AX.loopF (fun s' t' H' => ∃ (rs160 : List (List Int)) (x163 : Int) (T161 : Tb), (rs160, x163) = s' ∧ St ((oseg p_a0 (tcells T_a0) ++ (tseg T_a0)).map (·.1)) H H' [oseg p_a0 (tcells T161), tseg T161, [(i101, AObj.row false (ints a1))]] ∧ rs160.length = a0.length ∧ trows T161 = rs160 ∧ TSb T161 ∧ Am.Sub [(0, .slice p_a0 a0.length c_a0), (2, .int .i64 a2), (4, .pointer (some ⟨i101, 0, none⟩)), (8, .int .i64 ((a0.length : Nat) : Int)), (9, .int .i64 x163)] t') hl193 ?_ ?_
    · skip
      have S195 := S102.front 0 rfl
      have S196 := S195.front 2 rfl
      have S197 := S196.front 2 rfl
      exact ⟨a0, 0, T_a0, rfl, S197, rfl, t_a0, z_a0, Sub.cons' rfl rfl (Sub.cons' rfl rfl (Sub.cons' rfl rfl (Sub.cons' rfl rfl (Sub.cons' rfl rfl (Sub.nil _)))))⟩
    · rintro n198 _ t' G202 ⟨rs160, x163, T161, rfl, S201, lrs160, tT161, sT161, hsub203⟩ o204 ho199 hk200
      refine AX.sub hsub203 ?_
      unfold D_impl_mark_s0 at ho199
      refine AX.seq ?_
      refine AX.region ?_
      refine AO.p rfl (p_lss rfl rfl) ?_
      refine AO.nil ?_
      refine AX.seq ?_
      refine AX.cond rfl (fun c205 => ?_) (fun c205 => ?_)
      · have hd206 := bif_t c205 ho199
        refine AX.skip ?_
        refine AX.seq ?_
        refine AX.block ?_
        refine AX.seq ?_
        refine AX.region ?_
        refine AO.p rfl (p_move rfl) ?_
        refine AO.p rfl (p_assign rfl) ?_
        refine AO.nil ?_
        refine DR.startS [false, false, false, false, false, false, false, false, false, false, false, false, true] mix (by kernel_rfl) (fun hst => ?_)
        refine DR.p rfl rfl (p_move rfl) ?_
        refine DR.p rfl rfl (p_move rfl) ?_
        obtain ⟨k207, hd208⟩ := chk_some hd206
        refine DR.p rfl rfl (s_indexV (q := x163.toNat) Try.underlying43 Try.sizeOf58 rfl (s_a0.at (inR_pos k207)) rfl k207 (z1 _)) ?_
        obtain ⟨p209, c210, e211, f212⟩ := tget tT161 (lt_len lrs160 (inR_lt k207))
        refine DR.r rfl rfl (r_load rfl Try.isAgg58) (one_read (row_cell (S201.oat (k := 0) rfl (s_a0.at (inR_pos k207))) f212) (TVw.at (S201.oviewT (k := 1) rfl sT161) e211).inn.bel) ?_
        refine DR.p rfl rfl (p_move rfl) ?_
        obtain ⟨k213, hd214⟩ := chk_some hd208
        refine DR.p rfl rfl (s_indexAr (q := x163.toNat) Try.underlying54 Try.sizeOf2 rfl rfl k213 (z1 _)) ?_
        refine DR.r rfl rfl (r_load rfl Try.isAgg2) (one_read (row_cell (S201.get (k := 2) rfl) (ints_get (lt_len h_a1 (inR_lt k213)))) (.of_flat0 rfl)) ?_
        obtain ⟨k215, hd216⟩ := chk_some hd214
        refine DR.p rfl rfl (s_indexV (q := off p209 + (rd a1 x163.toNat).toNat) Try.underlying58 Try.sizeOf2 rfl ((TVw.at (S201.oviewT (k := 1) rfl sT161) e211).p (ints_get (lt_len rfl (inR_lt k215)))) rfl k215 (o1 _ _)) ?_
        refine DR.r rfl rfl (r_load rfl Try.isAgg2) (one_read ((TVw.at (S201.oviewT (k := 1) rfl sT161) e211).get _ _ (ints_get (lt_len rfl (inR_lt k215)))) (.of_flat0 rfl)) ?_
        refine DR.p rfl rfl (p_move rfl) ?_
        obtain ⟨k217, hd218⟩ := chk_some hd216
        refine DR.p rfl rfl (p_addE rfl rfl k217) ?_
        obtain ⟨k219, hd220⟩ := chk_some hd218
        refine DR.p rfl rfl (s_indexV (q := off p209 + (rd a1 x163.toNat).toNat) Try.underlying58 Try.sizeOf2 rfl ((TVw.at (S201.oviewT (k := 1) rfl sT161) e211).p (ints_get (lt_len rfl (inR_lt k219)))) rfl k219 (o1 _ _)) ?_
        obtain ⟨G221, hHG221, S222⟩ := S201.tset (k := 1) rfl e211 ((TSb.at sT161 e211).at (inR_pos k219)) ((rw_ rs160 x163.toNat).set ((rd a1 x163.toNat).toNat) (rd (rw_ rs160 x163.toNat) ((rd a1 x163.toNat).toNat) + a2))
        have S223 := S222.hdr (k := 0) (tcells_set (xs' := ((rw_ rs160 x163.toNat).set ((rd a1 x163.toNat).toNat) (rd (rw_ rs160 x163.toNat) ((rd a1 x163.toNat).toNat) + a2))) e211 (len_set rfl)).symm rfl
        refine DR.s rfl (s_storeO (o := off p209 + (rd a1 x163.toNat).toNat) (q := (rd a1 x163.toNat).toNat) (off0 ((TSb.at sT161 e211).at (inR_pos k219)) _) Try.sizeOf2 rfl rfl rfl (S201.tat (k := 1) rfl e211 ((TSb.at sT161 e211).at (inR_pos k219))) (lt_len (ints_length _) (inR_lt k219)) ((congrArg (fun l => List.set _ _ (AObj.row false l)) (ints_set _ _ _)).trans hHG221)) (set_le hHG221) ?_
        refine DR.nil 13 [] hst (by kernel_rfl) trivial ?_
        refine AX.region ?_
        obtain ⟨k224, hd225⟩ := chk_some hd220
        refine AO.p rfl (p_addE rfl rfl k224) ?_
        refine AO.p rfl (p_move rfl) ?_
        refine AO.nil ?_
        obtain rfl := some_inj hd225
        have S227 := S223.front 2 rfl
        have S228 := S227.front 2 rfl
        have S229 := S228.front 2 rfl
        exact ⟨((rs160.set x163.toNat ((rw_ rs160 x163.toNat).set ((rd a1 x163.toNat).toNat) (rd (rw_ rs160 x163.toNat) ((rd a1 x163.toNat).toNat) + a2))), x163 + 1), hk200, (rs160.set x163.toNat ((rw_ rs160 x163.toNat).set ((rd a1 x163.toNat).toNat) (rd (rw_ rs160 x163.toNat) ((rd a1 x163.toNat).toNat) + a2))), (x163 + 1), (T161.set x163.toNat (p209, c210, ((rw_ rs160 x163.toNat).set ((rd a1 x163.toNat).toNat) (rd (rw_ rs160 x163.toNat) ((rd a1 x163.toNat).toNat) + a2)))), rfl, S229, (len_set lrs160), (trows_set' tT161), (TSb.set sT161 e211 (len_set rfl)), Sub.cons' rfl rfl (Sub.cons' rfl rfl (Sub.cons' rfl rfl (Sub.cons' rfl rfl (Sub.cons' rfl rfl (Sub.nil _)))))⟩
      · have hd230 := bif_f c205 ho199
        refine AX.exit ?_
        obtain rfl := some_inj hd230
        have S231 := S201.front 1 rfl
        have S232 := S231.front 1 rfl
        have S233 := S232.keep 2
        exact ⟨rs160, T161, hk200, S233, lrs160, tT161, sT161, Sub.nil _⟩
  · rintro t' G235 ⟨rs190, T191, rfl, S234, lrs190, tT191, sT191, hsub236⟩
    refine ⟨_, hsub236, ?_⟩
    obtain rfl := some_inj hd194
    have S237 := S234.front 1 rfl
    have S238 := S237.front 1 rfl
    exact ⟨.inl rfl, _, res_none rfl, T191, rfl, S238, tT191, sT191, lrs190⟩

set_option maxHeartbeats 4000000 in
theorem W_impl_Round_meet (fu : Nat) (H : AHeap) (i_a0 : Nat) (a0 : List Int) (h_a0 : a0.length = 14) (o_a0 : hget H i_a0 = .row false (ints a0)) (a1 : Int) (a2 : Int) (m_a0 : List Int) (hd : D_impl_Round_meet fu a0 a1 a2 = some m_a0) : ∃ v G', ACall Try.prog 150 [.pointer (some ⟨i_a0, 0, none⟩), .int .i64 a1, .int .i64 a2] H v G' ∧ (v = .tuple #[]) ∧ St [i_a0] H G' [[(i_a0, AObj.row false (ints m_a0))]] ∧ m_a0.length = 14 := by
  refine ACall.bodyX (args := [.pointer (some ⟨i_a0, 0, none⟩), .int .i64 a1, .int .i64 a2]) (N := 16) [(0, .pointer (some ⟨i_a0, 0, none⟩)), (1, .int .i64 a1), (2, .int .i64 a2)] (fun v G' => (v = .tuple #[]) ∧ St [i_a0] H G' [[(i_a0, AObj.row false (ints m_a0))]] ∧ m_a0.length = 14) Try.func150 rfl rfl rfl rfl ?_
  unfold D_impl_Round_meet at hd
  have S0 : St [i_a0] H H [[(i_a0, AObj.row false (ints a0))]] := St.init (l := [(i_a0, AObj.row false (ints a0))]) (by simp) (by intro x hx; rw [List.mem_singleton.1 hx]; exact ⟨row_lt o_a0, o_a0⟩)
  refine DR.startS [false, false, false, false, false, false, false, false, true, false, false, true] mix (by kernel_rfl) (fun hst => ?_)
  refine DR.p rfl rfl (p_move rfl) ?_
  refine DR.p rfl rfl (p_move rfl) ?_
  refine DR.p rfl rfl (p_move rfl) ?_
  refine DR.p rfl rfl (p_move rfl) ?_
  refine DR.p rfl rfl (p_move rfl) ?_
  refine DR.p rfl rfl (p_move rfl) ?_
  refine DR.p rfl rfl (p_nilCheck rfl) ?_
  obtain ⟨k100, hd101⟩ := chk_some hd
  refine DR.p rfl rfl (s_indexAr (q := a1.toNat) Try.underlying54 Try.sizeOf2 rfl rfl k100 (z1 _)) ?_
  obtain ⟨G102, hHG102, S103⟩ := S0.set (k := 0) (i := i_a0) rfl (AObj.row false (ints (a0.set a1.toNat a2)))
  refine DR.s rfl (s_store Try.sizeOf2 rfl rfl rfl (S0.get (k := 0) rfl) (lt_len (ints_len h_a0) (inR_lt k100)) ((congrArg (fun l => List.set _ _ (AObj.row false l)) (ints_set _ _ _)).trans hHG102)) (set_le hHG102) ?_
  refine DR.p rfl rfl (p_nilCheck rfl) ?_
  obtain ⟨k104, hd105⟩ := chk_some hd101
  refine DR.p rfl rfl (s_indexAr (q := a2.toNat) Try.underlying54 Try.sizeOf2 rfl rfl k104 (z1 _)) ?_
  obtain ⟨G106, hHG106, S107⟩ := S103.set (k := 0) (i := i_a0) rfl (AObj.row false (ints ((a0.set a1.toNat a2).set a2.toNat a1)))
  refine DR.s rfl (s_store Try.sizeOf2 rfl rfl rfl (S103.get (k := 0) rfl) (lt_len (ints_len (len_set h_a0)) (inR_lt k104)) ((congrArg (fun l => List.set _ _ (AObj.row false l)) (ints_set _ _ _)).trans hHG106)) (set_le hHG106) ?_
  refine DR.nil 12 [] hst (by kernel_rfl) trivial ?_
  obtain rfl := some_inj hd105
  have S108 := S107.front 0 rfl
  exact ⟨.inl rfl, _, res_none rfl, rfl, S108, (len_set (len_set h_a0))⟩

end Go.Proofs.Ytdafmafigcljkaa
