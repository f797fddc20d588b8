/-
  The program computes that, printed by a program. No condition.
-/
import Derived.Test.YtpaaoafgahbokaaDF
import Derived.Test.YtpaaoafgahbokaaWC
import Derived.Test.YtpaaoafgahbokaaWE
import Derived.Test.YtpaaoafgahbokaaProg
import Derived.KernelRfl
namespace Go.Proofs.Ytpaaoafgahbokaa
open Go Go.RowKit Am
set_option linter.unusedVariables false
set_option linter.unusedSimpArgs false
set_option maxRecDepth 20000
set_option maxHeartbeats 4000000 in
theorem W_spec_l04Transposed (fu : Nat) (H : AHeap) (a0_0 : Int) (p_a0_1 : Option Addr) (c_a0_1 : Nat) (T_a0_1 : Tb) (a0_1 : List (List Int)) (t_a0_1 : trows T_a0_1 = a0_1) (v_a0_1 : Vw H p_a0_1 a0_1.length c_a0_1 (tcells T_a0_1)) (w_a0_1 : TVw H T_a0_1) (r0 : Int) (r1 : List (List Int)) (hd : D_spec_l04Transposed fu a0_0 a0_1 = some (r0, r1)) : ∃ v G', ACall Try.prog 59 [.agg [.int .i64 a0_0, .slice p_a0_1 a0_1.length c_a0_1].toArray] H v G' ∧ ∃ (p_r1 : Option Addr) (c_r1 : Nat) (T_r1 : Tb), (v = .agg [.int .i64 r0, .slice p_r1 r1.length c_r1].toArray) ∧ St [] H G' [oseg p_r1 (tcells T_r1), tseg T_r1] ∧ Sb p_r1 r1.length c_r1 1 ∧ trows T_r1 = r1 ∧ TSb T_r1 := by
  refine ACall.bodyX (args := [.agg [.int .i64 a0_0, .slice p_a0_1 a0_1.length c_a0_1].toArray]) (N := 42) [(0, .agg [.int .i64 a0_0, .slice p_a0_1 a0_1.length c_a0_1].toArray)] (fun v G' => ∃ (p_r1 : Option Addr) (c_r1 : Nat) (T_r1 : Tb), (v = .agg [.int .i64 r0, .slice p_r1 r1.length c_r1].toArray) ∧ St [] H G' [oseg p_r1 (tcells T_r1), tseg T_r1] ∧ Sb p_r1 r1.length c_r1 1 ∧ trows T_r1 = r1 ∧ TSb T_r1) Try.func59 rfl rfl rfl rfl ?_
  unfold D_spec_l04Transposed at hd
  have S0 : St [] H H [] := St.nil H
  refine AX.seq ?_
  refine AX.region ?_
  obtain ⟨G100, i101, hii101, hHG100, S102⟩ := S0.new (AObj.row false ([.int .i64 a0_0, .slice p_a0_1 a0_1.length c_a0_1]))
  refine AO.c rfl (s_box (i := i101) (cs := [.int .i64 a0_0, .slice p_a0_1 a0_1.length c_a0_1]) rfl hii101 rfl hHG100) ?_
  obtain ⟨G104, i105, hii105, hHG104, S106⟩ := S102.new (AObj.row false ([.int .i64 0, .slice none 0 0]))
  refine AO.c rfl (s_alloc (i := i105) (cs := [.int .i64 0, .slice none 0 0]) Try.zeroValue26 rfl rfl hii105 hHG104) ?_
  refine AO.nil ?_
  refine AX.seq ?_
  refine AX.region ?_
  refine AO.p rfl (s_fieldAddr Try.underlying26 rfl Try.sizeOf2 (by decide) rfl rfl) ?_
  refine AO.c rfl (s_load Try.isAgg2 rfl (row_cell (S106.get (k := 1) rfl) rfl)) ?_
  obtain ⟨G108, i109, hii109, hHG108, S110⟩ := S106.new (AObj.row false (tcells []))
  have S110t := S110.nilseg 1
  refine AO.c rfl (s_build0 (i := i109) Try.underlying22 Try.sizeOf68 hii109 hHG108) ?_
  refine AO.p rfl (p_build2 (vs := [(0, .int .i64 a0_0), (1, .slice (some (Addr.mk i109 0 none)) 0 0)]) (cs := [.int .i64 a0_0, .slice (some (Addr.mk i109 0 none)) 0 0]) Try.underlying26 rfl rfl rfl Try.sizeOf2 Try.sizeOf22 Try.zeroValue26 rfl rfl rfl rfl rfl) ?_
  obtain ⟨G112, i113, hii113, hHG112, S114⟩ := S110t.new (AObj.row false ([.int .i64 0, .slice none 0 0]))
  refine AO.c rfl (s_alloc (i := i113) (cs := [.int .i64 0, .slice none 0 0]) Try.zeroValue26 rfl rfl hii113 hHG112) ?_
  obtain ⟨G116, hHG116, S117⟩ := S114.set (k := 0) (i := i113) rfl (AObj.row false ([.int .i64 a0_0, .slice (some (Addr.mk i109 0 none)) 0 0]))
  refine AO.s (s_storeAll (vs := [.int .i64 a0_0, .slice (some (Addr.mk i109 0 none)) 0 0]) Try.sizeOf26 rfl rfl (ones_list rfl) (S114.get (k := 0) rfl) rfl rfl hHG116) ?_
  refine AO.nil ?_
  refine AX.seq ?_
  refine AX.seq ?_
  refine AX.region ?_
  refine AO.p rfl (p_assign rfl) ?_
  refine AO.nil ?_
  obtain ⟨r750, hl751, hd752⟩ := bnd_some hd
  refine AX.cutQ (fun t' H' => ∃ (rs748 : List (List Int)) (p746 : Option Addr) (c747 : Nat) (T749 : Tb), rs748 = r750 ∧ St [] H H' [[(i105, AObj.row false ([.int .i64 0, .slice none 0 0]))], [(i113, AObj.row false ([.int .i64 a0_0, .slice p746 rs748.length c747]))], oseg p746 (tcells T749), tseg T749] ∧ trows T749 = rs748 ∧ TSb T749 ∧ Sb p746 (rs748.length) c747 1 ∧ Am.Sub [(2, .pointer (some ⟨i105, 0, none⟩)), (3, .pointer (some ⟨i113, 0, none⟩))] t') ?_ ?_
  · refine AX.block ?_
    refine AX.loopF (fun s' t' H' => ∃ (rs539 : List (List Int)) (x541 : Int) (p537 : Option Addr) (c538 : Nat) (T540 : Tb), (rs539, x541) = s' ∧ St [] H H' [[(i101, AObj.row false ([.int .i64 a0_0, .slice p_a0_1 a0_1.length c_a0_1]))], [(i105, AObj.row false ([.int .i64 0, .slice none 0 0]))], [(i113, AObj.row false ([.int .i64 a0_0, .slice p537 rs539.length c538]))], oseg p537 (tcells T540), tseg T540] ∧ trows T540 = rs539 ∧ TSb T540 ∧ Sb p537 (rs539.length) c538 1 ∧ Am.Sub [(1, .pointer (some ⟨i101, 0, none⟩)), (2, .pointer (some ⟨i105, 0, none⟩)), (3, .pointer (some ⟨i113, 0, none⟩)), (4, .int .i64 x541)] t') hl751 ?_ ?_
    · skip
      have S753 := S117.front 2 rfl
      have S754 := S753.front 2 rfl
      have S755 := S754.front 2 rfl
      have S756 := S755.front 3 rfl
      have S757 := S756.front 4 rfl
      exact ⟨[], 0, (some (Addr.mk i109 0 none)), 0, [], rfl, S757, rfl, TSb.nil, (Sb.lit (n := 0) (by decide)), Sub.cons' rfl rfl (Sub.cons' rfl rfl (Sub.cons' rfl rfl (Sub.cons' rfl rfl (Sub.nil _))))⟩
    · rintro n758 _ t' G762 ⟨rs539, x541, p537, c538, T540, rfl, S761, tT540, sT540, Bo536, hsub763⟩ o764 ho759 hk760
      refine AX.sub hsub763 ?_
      unfold D_spec_l04Transposed_s0 at ho759
      refine AX.seq ?_
      refine AX.seq ?_
      refine AX.region ?_
      refine AO.p rfl (p_move rfl) ?_
      refine AO.p rfl (s_fieldAddr Try.underlying26 rfl Try.sizeOf2 (by decide) rfl rfl) ?_
      refine AO.c rfl (s_load Try.isAgg2 rfl (row_cell (S761.get (k := 0) rfl) rfl)) ?_
      refine AO.p rfl (p_lss rfl rfl) ?_
      refine AO.nil ?_
      refine AX.cond rfl (fun c765 => ?_) (fun c765 => ?_)
      · have hd766 := bif_t c765 ho759
        refine AX.skip ?_
        refine AX.seq ?_
        refine AX.block ?_
        refine AX.seq ?_
        refine AX.region ?_
        obtain ⟨G767, i768, hii768, hHG767, S769⟩ := S761.new (AObj.row false (ints []))
        refine AO.c rfl (s_build0 (i := i768) Try.underlying68 Try.sizeOf2 hii768 hHG767) ?_
        refine AO.p rfl (p_assign rfl) ?_
        refine AO.nil ?_
        refine AX.seq ?_
        refine AX.seq ?_
        refine AX.region ?_
        refine AO.p rfl (p_assign rfl) ?_
        refine AO.nil ?_
        obtain ⟨r886, hl887, hd888⟩ := bnd_some hd766
        refine AX.cutQ (fun t' H' => ∃ (xs885 : List Int) (p883 : Option Addr) (c884 : Nat), xs885 = r886 ∧ St [] H H' [[(i101, AObj.row false ([.int .i64 a0_0, .slice p_a0_1 a0_1.length c_a0_1]))], [(i105, AObj.row false ([.int .i64 0, .slice none 0 0]))], [(i113, AObj.row false ([.int .i64 a0_0, .slice p537 rs539.length c538]))], oseg p537 (tcells T540), tseg T540, oseg p883 (ints xs885)] ∧ Sb p883 (xs885.length) c884 1 ∧ Am.Sub [(1, .pointer (some ⟨i101, 0, none⟩)), (2, .pointer (some ⟨i105, 0, none⟩)), (3, .pointer (some ⟨i113, 0, none⟩)), (4, .int .i64 x541), (5, .slice p883 xs885.length c884)] t') ?_ ?_
        · refine AX.block ?_
          refine AX.loopF (fun s' t' H' => ∃ (xs848 : List Int) (x849 : Int) (p846 : Option Addr) (c847 : Nat), (xs848, x849) = s' ∧ St [] H H' [[(i101, AObj.row false ([.int .i64 a0_0, .slice p_a0_1 a0_1.length c_a0_1]))], [(i105, AObj.row false ([.int .i64 0, .slice none 0 0]))], [(i113, AObj.row false ([.int .i64 a0_0, .slice p537 rs539.length c538]))], oseg p537 (tcells T540), tseg T540, oseg p846 (ints xs848)] ∧ Sb p846 (xs848.length) c847 1 ∧ Am.Sub [(1, .pointer (some ⟨i101, 0, none⟩)), (2, .pointer (some ⟨i105, 0, none⟩)), (3, .pointer (some ⟨i113, 0, none⟩)), (4, .int .i64 x541), (5, .slice p846 xs848.length c847), (6, .int .i64 x849)] t') hl887 ?_ ?_
          · skip
            have S889 := S769.front 0 rfl
            have S890 := S889.front 5 rfl
            have S891 := S890.front 5 rfl
            have S892 := S891.front 5 rfl
            have S893 := S892.front 5 rfl
            have S894 := S893.front 5 rfl
            exact ⟨[], 0, (some (Addr.mk i768 0 none)), 0, rfl, S894, (Sb.lit (n := 0) (by decide)), Sub.cons' rfl rfl (Sub.cons' rfl rfl (Sub.cons' rfl rfl (Sub.cons' rfl rfl (Sub.cons' rfl rfl (Sub.cons' rfl rfl (Sub.nil _))))))⟩
          · rintro n895 _ t' G899 ⟨xs848, x849, p846, c847, rfl, S898, Bo845, hsub900⟩ o901 ho896 hk897
            refine AX.sub hsub900 ?_
            unfold D_spec_l04Transposed_s1 at ho896
            refine AX.seq ?_
            refine AX.seq ?_
            refine AX.region ?_
            refine AO.p rfl (p_move rfl) ?_
            refine AO.p rfl (s_fieldAddr Try.underlying26 rfl Try.sizeOf2 (by decide) rfl rfl) ?_
            refine AO.c rfl (s_load Try.isAgg2 rfl (row_cell (S898.get (k := 0) rfl) rfl)) ?_
            refine AO.p rfl (p_lss rfl rfl) ?_
            refine AO.nil ?_
            refine AX.cond rfl (fun c902 => ?_) (fun c902 => ?_)
            · have hd903 := bif_t c902 ho896
              refine AX.skip ?_
              refine AX.seq ?_
              refine AX.block ?_
              refine AX.region ?_
              refine AO.p rfl (p_move rfl) ?_
              refine AO.p rfl (s_fieldAddr Try.underlying26 rfl Try.sizeOf22 (by decide) rfl rfl) ?_
              refine AO.c rfl (s_load Try.isAgg22 rfl (row_cell (S898.get (k := 0) rfl) rfl)) ?_
              refine AO.p rfl (p_move rfl) ?_
              obtain ⟨k904, hd905⟩ := chk_some hd903
              obtain ⟨p906, c907, e908, f909⟩ := tget t_a0_1 (lt_len rfl (inR_lt k904))
              refine AO.p rfl (s_indexV (q := off p_a0_1 + x849.toNat) Try.underlying22 Try.sizeOf68 rfl ((S898.view v_a0_1).p f909) rfl k904 (o1 _ _)) ?_
              refine AO.c rfl (s_load Try.isAgg68 rfl ((S898.view v_a0_1).get _ _ f909)) ?_
              refine AO.p rfl (p_move rfl) ?_
              obtain ⟨k910, hd911⟩ := chk_some hd905
              refine AO.p rfl (s_indexV (q := off p906 + x541.toNat) Try.underlying68 Try.sizeOf2 rfl ((TVw.at (S898.tview w_a0_1) e908).p (ints_get (lt_len rfl (inR_lt k910)))) rfl k910 (o1 _ _)) ?_
              refine AO.c rfl (s_load Try.isAgg2 rfl ((TVw.at (S898.tview w_a0_1) e908).get _ _ (ints_get (lt_len rfl (inR_lt k910))))) ?_
              obtain ⟨G912, i913, hii913, hHG912, S914⟩ := S898.new (AObj.row false (ints [rd (rw_ a0_1 x849.toNat) x541.toNat]))
              refine AO.c rfl (s_buildInts (i := i913) (vs := [(0, .int .i64 (rd (rw_ a0_1 x849.toNat) x541.toNat))]) (xs := [rd (rw_ a0_1 x849.toNat) x541.toNat]) Try.underlying68 Try.sizeOf2 Try.zeroValue2 rfl rfl (by decide) rfl rfl hii913 hHG912) ?_
              obtain ⟨k916, hd917⟩ := chk_some hd911
              obtain ⟨p918, c919, G920, haG920, S921, Bp918⟩ := S914.app (k := 6) rfl Bo845 (ints [rd (rw_ a0_1 x849.toNat) x541.toNat]) 1 (ints_len1 rfl)
              have S922 := S921.cellsEq (k := 6) (us' := ints (xs848 ++ [rd (rw_ a0_1 x849.toNat) x541.toNat])) (ints_app _ _) rfl
              have BS922 : Sb p918 ((xs848 ++ [rd (rw_ a0_1 x849.toNat) x541.toNat]).length) c919 1 := (show xs848.length + 1 = (xs848 ++ [rd (rw_ a0_1 x849.toNat) x541.toNat]).length from len_app (a := xs848) (b := [rd (rw_ a0_1 x849.toNat) x541.toNat]) rfl rfl) ▸ Bp918
              have S923 := S922.drop 0 rfl
              refine AO.c rfl (s_app (by_ := 8) (us := ints xs848) (vs := ints [rd (rw_ a0_1 x849.toNat) x541.toNat]) Try.underlying68 Try.underlying68 Try.typeInfo2 Try.sizeOf2 Try.zeroValue2 rfl rfl rfl rfl rfl rfl rfl (S914.buf (k := 6) rfl Bo845 (ints_len1 rfl)) (S914.oview (k := 0) rfl (Sb.lit (n := 1) (by decide)) (ints_len1 rfl)) (ints_len1 rfl) ints_one k916 haG920 (show xs848.length + 1 = (xs848 ++ [rd (rw_ a0_1 x849.toNat) x541.toNat]).length from len_app (a := xs848) (b := [rd (rw_ a0_1 x849.toNat) x541.toNat]) rfl rfl)) ?_
              refine AO.p rfl (p_assign rfl) ?_
              refine AO.nil ?_
              refine AX.region ?_
              refine AO.p rfl (p_move rfl) ?_
              obtain ⟨k924, hd925⟩ := chk_some hd917
              refine AO.p rfl (p_addE rfl rfl k924) ?_
              refine AO.p rfl (p_assign rfl) ?_
              refine AO.nil ?_
              obtain rfl := some_inj hd925
              have S927 := S923.front 5 rfl
              have S928 := S927.front 5 rfl
              have S929 := S928.front 5 rfl
              have S930 := S929.front 5 rfl
              have S931 := S930.front 5 rfl
              have S932 := S931.front 5 rfl
              exact ⟨((xs848 ++ [rd (rw_ a0_1 x849.toNat) x541.toNat]), x849 + 1), hk897, (xs848 ++ [rd (rw_ a0_1 x849.toNat) x541.toNat]), (x849 + 1), p918, c919, rfl, S932, BS922, Sub.cons' rfl rfl (Sub.cons' rfl rfl (Sub.cons' rfl rfl (Sub.cons' rfl rfl (Sub.cons' rfl rfl (Sub.cons' rfl rfl (Sub.nil _))))))⟩
            · have hd933 := bif_f c902 ho896
              refine AX.exit ?_
              obtain rfl := some_inj hd933
              have S934 := S898.front 5 rfl
              have S935 := S934.front 5 rfl
              have S936 := S935.front 5 rfl
              have S937 := S936.front 5 rfl
              have S938 := S937.front 5 rfl
              have S939 := S938.front 5 rfl
              exact ⟨xs848, p846, c847, hk897, S939, Bo845, Sub.cons' rfl rfl (Sub.cons' rfl rfl (Sub.cons' rfl rfl (Sub.cons' rfl rfl (Sub.cons' rfl rfl (Sub.nil _)))))⟩
        · rintro t' G941 ⟨xs885, p883, c884, rfl, S940, Bo882, hsub942⟩
          refine AX.sub hsub942 ?_
          refine AX.region ?_
          refine AO.p rfl (s_fieldAddr Try.underlying26 rfl Try.sizeOf22 (by decide) rfl rfl) ?_
          refine AO.c rfl (s_load Try.isAgg22 rfl (row_cell (S940.get (k := 2) rfl) rfl)) ?_
          refine AO.p rfl (p_move rfl) ?_
          obtain ⟨G943, i944, hii944, hHG943, S945⟩ := S940.new (AObj.row false (tcells [(p883, c884, xs885)]))
          have S947 := (S945.front 6 rfl).tone p883 c884 xs885 rfl
          refine AO.c rfl (s_buildT1 (i := i944) (X := [(p883, c884, xs885)]) (n := xs885.length) rfl Try.underlying22 Try.sizeOf68 Try.zeroValue68 rfl rfl hii944 hHG943) ?_
          obtain ⟨k948, hd949⟩ := chk_some hd888
          obtain ⟨p950, c951, G952, haG952, S953, Bp950⟩ := S947.app (k := 5) rfl Bo536 (tcells [(p883, c884, xs885)]) 1 (tc_len1 rfl rfl)
          have S954 := S953.cellsEq (k := 5) (us' := tcells (T540 ++ [(p883, c884, xs885)])) (tcells_app _ _).symm rfl
          have BS954 : Sb p950 ((rs539 ++ [xs885]).length) c951 1 := (show rs539.length + 1 = (rs539 ++ [xs885]).length from len_app (a := rs539) (b := [xs885]) rfl rfl) ▸ Bp950
          have S955 := S954.front 0 rfl
          have S956 := (S955.front 6 rfl).tmerge
          have S957 := S956.drop 1 rfl
          refine AO.c rfl (s_app (by_ := 24) (us := tcells T540) (vs := tcells [(p883, c884, xs885)]) Try.underlying22 Try.underlying22 Try.typeInfo68 Try.sizeOf68 Try.zeroValue68 rfl rfl rfl rfl rfl rfl rfl (S947.buf (k := 5) rfl Bo536 (tc_len1 tT540 rfl)) (S947.oview (k := 1) rfl (Sb.lit (n := 1) (by decide)) (tc_len1 rfl rfl)) (tc_len1 rfl rfl) tcells_one k948 haG952 (show rs539.length + 1 = (rs539 ++ [xs885]).length from len_app (a := rs539) (b := [xs885]) rfl rfl)) ?_
          refine AO.p rfl (s_fieldAddr Try.underlying26 rfl Try.sizeOf22 (by decide) rfl rfl) ?_
          obtain ⟨G958, hHG958, S959⟩ := S957.set (k := 3) (i := i113) rfl (AObj.row false ([.int .i64 a0_0, .slice p950 ((rs539 ++ [xs885]).length) c951]))
          refine AO.s (s_store Try.sizeOf22 rfl rfl rfl (S957.get (k := 3) rfl) (Nat.le_of_ble_eq_true rfl) hHG958) ?_
          refine AO.nil ?_
          refine AX.region ?_
          refine AO.p rfl (p_move rfl) ?_
          obtain ⟨k960, hd961⟩ := chk_some hd949
          refine AO.p rfl (p_addE rfl rfl k960) ?_
          refine AO.p rfl (p_assign rfl) ?_
          refine AO.nil ?_
          obtain rfl := some_inj hd961
          have S963 := S959.front 0 rfl
          have S964 := S963.front 4 rfl
          have S965 := S964.front 4 rfl
          have S966 := S965.front 4 rfl
          have S967 := S966.front 4 rfl
          exact ⟨((rs539 ++ [xs885]), x541 + 1), hk760, (rs539 ++ [xs885]), (x541 + 1), p950, c951, (T540 ++ [(p883, c884, xs885)]), rfl, S967, (trows_apps tT540 rfl), (TSb.app sT540 (TSb.one (sb_len rfl Bo882))), BS954, Sub.cons' rfl rfl (Sub.cons' rfl rfl (Sub.cons' rfl rfl (Sub.cons' rfl rfl (Sub.nil _))))⟩
      · have hd968 := bif_f c765 ho759
        refine AX.exit ?_
        obtain rfl := some_inj hd968
        have S969 := S761.front 4 rfl
        have S970 := S969.front 4 rfl
        have S971 := S970.front 4 rfl
        have S972 := S971.front 4 rfl
        have S973 := S972.keep 4
        exact ⟨rs539, p537, c538, T540, hk760, S973, tT540, sT540, Bo536, Sub.cons' rfl rfl (Sub.cons' rfl rfl (Sub.nil _))⟩
  · rintro t' G975 ⟨rs748, p746, c747, T749, rfl, S974, tT749, sT749, Bo745, hsub976⟩
    refine AX.sub hsub976 ?_
    refine AX.seq ?_
    refine AX.region ?_
    refine AO.c rfl (s_loadN (vs := [.int .i64 a0_0, .slice p746 rs748.length c747]) Try.isAgg26 Try.sizeOf26 rfl rfl (row_cells (S974.get (k := 1) rfl))) ?_
    obtain ⟨G977, hHG977, S978⟩ := S974.set (k := 0) (i := i105) rfl (AObj.row false ([.int .i64 a0_0, .slice p746 rs748.length c747]))
    refine AO.s (s_storeAll (vs := [.int .i64 a0_0, .slice p746 rs748.length c747]) Try.sizeOf26 rfl rfl (ones_list rfl) (S974.get (k := 0) rfl) rfl rfl hHG977) ?_
    refine AO.nil ?_
    refine AX.ret ?_
    obtain ⟨rfl, rfl⟩ := Prod.mk.inj (some_inj hd752)
    have S980 := S978.front 3 rfl
    have S981 := S980.front 3 rfl
    have S982 := S981.keep 2
    exact ⟨.inr rfl, _, res1 rfl (rv_cell (vs := [.int .i64 a0_0, .slice p746 rs748.length c747]) rfl Try.isAgg26 Try.sizeOf26 rfl (row_cells (S978.get (k := 0) rfl))), p746, c747, T749, rfl, S982, Bo745, tT749, sT749⟩

set_option maxHeartbeats 4000000 in
theorem W_spec_TransposeSquare (fu : Nat) (H : AHeap) (a0_0 : Int) (p_a0_1 : Option Addr) (c_a0_1 : Nat) (T_a0_1 : Tb) (a0_1 : List (List Int)) (t_a0_1 : trows T_a0_1 = a0_1) (v_a0_1 : Vw H p_a0_1 a0_1.length c_a0_1 (tcells T_a0_1)) (w_a0_1 : TVw H T_a0_1) (r0 : Int) (r1 : List (List Int)) (r2 : Int) (hd : D_spec_TransposeSquare fu a0_0 a0_1 = some (r0, r1, r2)) : ∃ v G', ACall Try.prog 16 [.agg [.int .i64 a0_0, .slice p_a0_1 a0_1.length c_a0_1].toArray] H v G' ∧ ∃ (p_r1 : Option Addr) (c_r1 : Nat) (T_r1 : Tb), (v = .tuple #[.agg [.int .i64 r0, .slice p_r1 r1.length c_r1].toArray, .int .i64 r2]) ∧ St [] H G' [oseg p_r1 (tcells T_r1), tseg T_r1] ∧ Sb p_r1 r1.length c_r1 1 ∧ trows T_r1 = r1 ∧ TSb T_r1 := by
  refine ACall.bodyX (args := [.agg [.int .i64 a0_0, .slice p_a0_1 a0_1.length c_a0_1].toArray]) (N := 10) [(0, .agg [.int .i64 a0_0, .slice p_a0_1 a0_1.length c_a0_1].toArray)] (fun v G' => ∃ (p_r1 : Option Addr) (c_r1 : Nat) (T_r1 : Tb), (v = .tuple #[.agg [.int .i64 r0, .slice p_r1 r1.length c_r1].toArray, .int .i64 r2]) ∧ St [] H G' [oseg p_r1 (tcells T_r1), tseg T_r1] ∧ Sb p_r1 r1.length c_r1 1 ∧ trows T_r1 = r1 ∧ TSb T_r1) Try.func16 rfl rfl rfl rfl ?_
  unfold D_spec_TransposeSquare at hd
  have S0 : St [] H H [] := St.nil H
  refine AX.seq ?_
  refine AX.region ?_
  obtain ⟨G100, i101, hii101, hHG100, S102⟩ := S0.new (AObj.row false ([.int .i64 a0_0, .slice p_a0_1 a0_1.length c_a0_1]))
  refine AO.c rfl (s_box (i := i101) (cs := [.int .i64 a0_0, .slice p_a0_1 a0_1.length c_a0_1]) rfl hii101 rfl hHG100) ?_
  obtain ⟨G104, i105, hii105, hHG104, S106⟩ := S102.new (AObj.row false ([.int .i64 0, .slice none 0 0]))
  refine AO.c rfl (s_alloc (i := i105) (cs := [.int .i64 0, .slice none 0 0]) Try.zeroValue26 rfl rfl hii105 hHG104) ?_
  refine AO.p rfl (p_assign rfl) ?_
  refine AO.nil ?_
  refine AX.seq ?_
  refine AX.seq ?_
  refine AX.region ?_
  refine AO.c rfl (s_loadN (vs := [.int .i64 a0_0, .slice p_a0_1 a0_1.length c_a0_1]) Try.isAgg26 Try.sizeOf26 rfl rfl (row_cells (S106.get (k := 1) rfl))) ?_
  obtain ⟨b108, h109, hd110⟩ := bnd_some hd
  refine AO.c rfl (o_call (vs := [.agg [.int .i64 a0_0, .slice p_a0_1 a0_1.length c_a0_1].toArray]) rfl Try.call58 (W_spec_l04Is fu G104 a0_0 p_a0_1 c_a0_1 T_a0_1 a0_1 t_a0_1 (S106.view v_a0_1) (S106.tview w_a0_1) b108 h109)) ?_
  refine AO.p rfl (p_not rfl) ?_
  refine AO.nil ?_
  refine AX.cond rfl (fun c112 => ?_) (fun c112 => ?_)
  · have hd113 := bif_t c112 hd110
    refine AX.seq ?_
    refine AX.region ?_
    refine AO.p rfl (p_build2 (vs := []) (cs := [.int .i64 0, .slice none 0 0]) Try.underlying26 rfl rfl rfl Try.sizeOf2 Try.sizeOf22 Try.zeroValue26 rfl rfl rfl rfl rfl) ?_
    obtain ⟨G114, hHG114, S115⟩ := S106.set (k := 0) (i := i105) rfl (AObj.row false ([.int .i64 0, .slice none 0 0]))
    refine AO.s (s_storeAll (vs := [.int .i64 0, .slice none 0 0]) Try.sizeOf26 rfl rfl (ones_list rfl) (S106.get (k := 0) rfl) rfl rfl hHG114) ?_
    refine AO.p rfl (p_assign rfl) ?_
    refine AO.nil ?_
    refine AX.ret ?_
    obtain ⟨rfl, z116⟩ := Prod.mk.inj (some_inj hd113)
    obtain ⟨rfl, rfl⟩ := Prod.mk.inj z116
    have S118 : St [] H G114 (tseg [] :: _) := S115.nilseg 0
    have S119 : St [] H G114 (oseg none (tcells []) :: _) := S118.nilseg 0
    have S120 := S119.keep 2
    exact ⟨.inr rfl, _, res2 rfl (rv_cell (vs := [.int .i64 0, .slice none 0 0]) rfl Try.isAgg26 Try.sizeOf26 rfl (row_cells (S115.get (k := 0) rfl))) (rv_tmp rfl), none, 0, [], rfl, S120, Sb.nil, rfl, TSb.nil⟩
  · have hd121 := bif_f c112 hd110
    refine AX.skip ?_
    refine AX.seq ?_
    refine AX.region ?_
    refine AO.c rfl (s_loadN (vs := [.int .i64 a0_0, .slice p_a0_1 a0_1.length c_a0_1]) Try.isAgg26 Try.sizeOf26 rfl rfl (row_cells (S106.get (k := 1) rfl))) ?_
    obtain ⟨⟨x122, rs123⟩, h124, hd125⟩ := bnd_some hd121
    obtain ⟨_, G134, hc133, p126, c127, T130, rfl, S135, B129, t131, s132⟩ := W_spec_l04Transposed fu G104 a0_0 p_a0_1 c_a0_1 T_a0_1 a0_1 t_a0_1 (S106.view v_a0_1) (S106.tview w_a0_1) x122 rs123 h124
    have S136 := S106.call S135
    refine AO.c rfl (o_call (vs := [.agg [.int .i64 a0_0, .slice p_a0_1 a0_1.length c_a0_1].toArray]) rfl Try.call59 hc133) ?_
    obtain ⟨G137, hHG137, S138⟩ := S136.set (k := 2) (i := i105) rfl (AObj.row false ([.int .i64 x122, .slice p126 rs123.length c127]))
    refine AO.s (s_storeAll (vs := [.int .i64 x122, .slice p126 rs123.length c127]) Try.sizeOf26 rfl rfl (ones_list rfl) (S136.get (k := 2) rfl) rfl rfl hHG137) ?_
    refine AO.p rfl (p_assign rfl) ?_
    refine AO.nil ?_
    refine AX.ret ?_
    obtain ⟨rfl, z139⟩ := Prod.mk.inj (some_inj hd125)
    obtain ⟨rfl, rfl⟩ := Prod.mk.inj z139
    have S141 := S138.front 1 rfl
    have S142 := S141.front 1 rfl
    have S143 := S142.keep 2
    exact ⟨.inr rfl, _, res2 rfl (rv_cell (vs := [.int .i64 x122, .slice p126 rs123.length c127]) rfl Try.isAgg26 Try.sizeOf26 rfl (row_cells (S138.get (k := 2) rfl))) (rv_tmp rfl), p126, c127, T130, rfl, S143, B129, t131, s132⟩

set_option maxHeartbeats 4000000 in
theorem W_impl_square (fu : Nat) (H : AHeap) (a0 : Int) (r0 : List (List Int)) (hd : D_impl_square fu a0 = some r0) : ∃ v G', ACall Try.prog 119 [.int .i64 a0] H v G' ∧ ∃ (p_r0 : Option Addr) (c_r0 : Nat) (T_r0 : Tb), (v = .slice p_r0 r0.length c_r0) ∧ St [] H G' [oseg p_r0 (tcells T_r0), tseg T_r0] ∧ Sb p_r0 r0.length c_r0 1 ∧ trows T_r0 = r0 ∧ TSb T_r0 := by
  refine ACall.bodyX (args := [.int .i64 a0]) (N := 15) [(0, .int .i64 a0)] (fun v G' => ∃ (p_r0 : Option Addr) (c_r0 : Nat) (T_r0 : Tb), (v = .slice p_r0 r0.length c_r0) ∧ St [] H G' [oseg p_r0 (tcells T_r0), tseg T_r0] ∧ Sb p_r0 r0.length c_r0 1 ∧ trows T_r0 = r0 ∧ TSb T_r0) Try.func119 rfl rfl rfl rfl ?_
  unfold D_impl_square at hd
  have S0 : St [] H H [] := St.nil H
  refine AX.seq ?_
  refine AX.region ?_
  refine AO.p rfl (p_assign rfl) ?_
  refine AO.nil ?_
  refine AX.seq ?_
  refine AX.region ?_
  obtain ⟨G100, i101, hii101, hHG100, S102⟩ := S0.new (AObj.row false (tcells []))
  have S102t := S102.nilseg 1
  refine AO.c rfl (s_build0 (i := i101) Try.underlying22 Try.sizeOf68 hii101 hHG100) ?_
  refine AO.p rfl (p_assign rfl) ?_
  refine AO.nil ?_
  refine AX.seq ?_
  refine AX.seq ?_
  refine AX.region ?_
  refine AO.p rfl (p_move rfl) ?_
  refine AO.p rfl (p_move rfl) ?_
  refine AO.nil ?_
  obtain ⟨r209, hl210, hd211⟩ := bnd_some hd
  refine AX.cutQ (fun t' H' => ∃ (rs207 : List (List Int)) (p205 : Option Addr) (c206 : Nat) (T208 : Tb), rs207 = r209 ∧ St [] H H' [oseg p205 (tcells T208), tseg T208] ∧ trows T208 = rs207 ∧ TSb T208 ∧ Sb p205 (rs207.length) c206 1 ∧ Am.Sub [(3, .slice p205 rs207.length c206)] t') ?_ ?_
  · refine AX.block ?_
    refine AX.loopF (fun s' t' H' => ∃ (rs172 : List (List Int)) (x174 : Int) (p170 : Option Addr) (c171 : Nat) (T173 : Tb), (rs172, x174) = s' ∧ St [] H H' [oseg p170 (tcells T173), tseg T173] ∧ trows T173 = rs172 ∧ TSb T173 ∧ Sb p170 (rs172.length) c171 1 ∧ Am.Sub [(0, .int .i64 a0), (3, .slice p170 rs172.length c171), (5, .int .i64 a0), (6, .int .i64 x174)] t') hl210 ?_ ?_
    · skip
      have S212 := S102t.front 1 rfl
      have S213 := S212.front 1 rfl
      exact ⟨[], 0, (some (Addr.mk i101 0 none)), 0, [], rfl, S213, rfl, TSb.nil, (Sb.lit (n := 0) (by decide)), Sub.cons' rfl rfl (Sub.cons' rfl rfl (Sub.cons' rfl rfl (Sub.cons' rfl rfl (Sub.nil _))))⟩
    · rintro n214 _ t' G218 ⟨rs172, x174, p170, c171, T173, rfl, S217, tT173, sT173, Bo169, hsub219⟩ o220 ho215 hk216
      refine AX.sub hsub219 ?_
      unfold D_impl_square_s0 at ho215
      refine AX.seq ?_
      refine AX.region ?_
      refine AO.p rfl (p_lss rfl rfl) ?_
      refine AO.nil ?_
      refine AX.seq ?_
      refine AX.cond rfl (fun c221 => ?_) (fun c221 => ?_)
      · have hd222 := bif_t c221 ho215
        refine AX.skip ?_
        refine AX.seq ?_
        refine AX.block ?_
        refine AX.region ?_
        refine AO.p rfl (p_move rfl) ?_
        refine AO.p rfl (p_move rfl) ?_
        obtain ⟨k223, hd224⟩ := chk_some hd222
        obtain ⟨G225, i226, hii226, hHG225, S227⟩ := S217.new (AObj.row false (ints (List.replicate a0.toNat 0)))
        refine AO.c rfl (s_makeIntsE (i := i226) (by_ := 8) Try.underlying68 Try.typeInfo2 Try.sizeOf2 Try.zeroValue2 rfl rfl rfl rfl rfl k223 hii226 hHG225) ?_
        obtain ⟨G229, i230, hii230, hHG229, S231⟩ := S227.new (AObj.row false (tcells [((some (Addr.mk i226 0 none)), a0.toNat, (List.replicate a0.toNat 0))]))
        have S233 := (S231.front 1 rfl).tone (some (Addr.mk i226 0 none)) a0.toNat (List.replicate a0.toNat 0) rfl
        refine AO.c rfl (s_buildT1 (i := i230) (X := [((some (Addr.mk i226 0 none)), a0.toNat, (List.replicate a0.toNat 0))]) (n := a0.toNat) len_rep Try.underlying22 Try.sizeOf68 Try.zeroValue68 rfl rfl hii230 hHG229) ?_
        obtain ⟨k234, hd235⟩ := chk_some hd224
        obtain ⟨p236, c237, G238, haG238, S239, Bp236⟩ := S233.app (k := 2) rfl Bo169 (tcells [((some (Addr.mk i226 0 none)), a0.toNat, (List.replicate a0.toNat 0))]) 1 (tc_len1 rfl rfl)
        have S240 := S239.cellsEq (k := 2) (us' := tcells (T173 ++ [((some (Addr.mk i226 0 none)), a0.toNat, (List.replicate a0.toNat 0))])) (tcells_app _ _).symm rfl
        have BS240 : Sb p236 ((rs172 ++ [(List.replicate a0.toNat 0)]).length) c237 1 := (show rs172.length + 1 = (rs172 ++ [(List.replicate a0.toNat 0)]).length from len_app (a := rs172) (b := [(List.replicate a0.toNat 0)]) rfl rfl) ▸ Bp236
        have S241 := S240.front 0 rfl
        have S242 := (S241.front 3 rfl).tmerge
        have S243 := S242.drop 1 rfl
        refine AO.c rfl (s_app (by_ := 24) (us := tcells T173) (vs := tcells [((some (Addr.mk i226 0 none)), a0.toNat, (List.replicate a0.toNat 0))]) Try.underlying22 Try.underlying22 Try.typeInfo68 Try.sizeOf68 Try.zeroValue68 rfl rfl rfl rfl rfl rfl rfl (S233.buf (k := 2) rfl Bo169 (tc_len1 tT173 rfl)) (S233.oview (k := 1) rfl (Sb.lit (n := 1) (by decide)) (tc_len1 rfl rfl)) (tc_len1 rfl rfl) tcells_one k234 haG238 (show rs172.length + 1 = (rs172 ++ [(List.replicate a0.toNat 0)]).length from len_app (a := rs172) (b := [(List.replicate a0.toNat 0)]) rfl rfl)) ?_
        refine AO.p rfl (p_assign rfl) ?_
        refine AO.nil ?_
        refine AX.region ?_
        obtain ⟨k244, hd245⟩ := chk_some hd235
        refine AO.p rfl (p_addE rfl rfl k244) ?_
        refine AO.p rfl (p_move rfl) ?_
        refine AO.nil ?_
        obtain rfl := some_inj hd245
        have S247 := S243.front 0 rfl
        have S248 := S247.front 1 rfl
        exact ⟨((rs172 ++ [(List.replicate a0.toNat 0)]), x174 + 1), hk216, (rs172 ++ [(List.replicate a0.toNat 0)]), (x174 + 1), p236, c237, (T173 ++ [((some (Addr.mk i226 0 none)), a0.toNat, (List.replicate a0.toNat 0))]), rfl, S248, (trows_apps tT173 rfl), (TSb.app sT173 (TSb.one (sb_len len_rep (Sb.lit (mkcap k223))))), BS240, Sub.cons' rfl rfl (Sub.cons' rfl rfl (Sub.cons' rfl rfl (Sub.cons' rfl rfl (Sub.nil _))))⟩
      · have hd249 := bif_f c221 ho215
        refine AX.exit ?_
        obtain rfl := some_inj hd249
        have S250 := S217.front 1 rfl
        have S251 := S250.front 1 rfl
        exact ⟨rs172, p170, c171, T173, hk216, S251, tT173, sT173, Bo169, Sub.cons' rfl rfl (Sub.nil _)⟩
  · rintro t' G253 ⟨rs207, p205, c206, T208, rfl, S252, tT208, sT208, Bo204, hsub254⟩
    refine AX.sub hsub254 ?_
    refine AX.seq ?_
    refine AX.region ?_
    refine AO.p rfl (p_move rfl) ?_
    refine AO.p rfl (p_assign rfl) ?_
    refine AO.nil ?_
    refine AX.ret ?_
    obtain rfl := some_inj hd211
    have S255 := S252.front 1 rfl
    have S256 := S255.front 1 rfl
    exact ⟨.inr rfl, _, res1 rfl (rv_tmp rfl), p205, c206, T208, rfl, S256, Bo204, tT208, sT208⟩

set_option maxHeartbeats 4000000 in
theorem W_impl_Square_turned (fu : Nat) (H : AHeap) (a0_0 : Int) (p_a0_1 : Option Addr) (c_a0_1 : Nat) (T_a0_1 : Tb) (a0_1 : List (List Int)) (t_a0_1 : trows T_a0_1 = a0_1) (v_a0_1 : Vw H p_a0_1 a0_1.length c_a0_1 (tcells T_a0_1)) (w_a0_1 : TVw H T_a0_1) (r0 : Int) (r1 : List (List Int)) (hd : D_impl_Square_turned fu a0_0 a0_1 = some (r0, r1)) : ∃ v G', ACall Try.prog 61 [.agg [.int .i64 a0_0, .slice p_a0_1 a0_1.length c_a0_1].toArray] H v G' ∧ ∃ (p_r1 : Option Addr) (c_r1 : Nat) (T_r1 : Tb), (v = .agg [.int .i64 r0, .slice p_r1 r1.length c_r1].toArray) ∧ St [] H G' [oseg p_r1 (tcells T_r1), tseg T_r1] ∧ Sb p_r1 r1.length c_r1 1 ∧ trows T_r1 = r1 ∧ TSb T_r1 := by
  refine ACall.bodyX (args := [.agg [.int .i64 a0_0, .slice p_a0_1 a0_1.length c_a0_1].toArray]) (N := 40) [(0, .agg [.int .i64 a0_0, .slice p_a0_1 a0_1.length c_a0_1].toArray)] (fun v G' => ∃ (p_r1 : Option Addr) (c_r1 : Nat) (T_r1 : Tb), (v = .agg [.int .i64 r0, .slice p_r1 r1.length c_r1].toArray) ∧ St [] H G' [oseg p_r1 (tcells T_r1), tseg T_r1] ∧ Sb p_r1 r1.length c_r1 1 ∧ trows T_r1 = r1 ∧ TSb T_r1) Try.func61 rfl rfl rfl rfl ?_
  unfold D_impl_Square_turned at hd
  have S0 : St [] H H [] := St.nil H
  refine AX.seq ?_
  refine AX.region ?_
  obtain ⟨G100, i101, hii101, hHG100, S102⟩ := S0.new (AObj.row false ([.int .i64 a0_0, .slice p_a0_1 a0_1.length c_a0_1]))
  refine AO.c rfl (s_box (i := i101) (cs := [.int .i64 a0_0, .slice p_a0_1 a0_1.length c_a0_1]) rfl hii101 rfl hHG100) ?_
  obtain ⟨G104, i105, hii105, hHG104, S106⟩ := S102.new (AObj.row false ([.int .i64 0, .slice none 0 0]))
  refine AO.c rfl (s_alloc (i := i105) (cs := [.int .i64 0, .slice none 0 0]) Try.zeroValue26 rfl rfl hii105 hHG104) ?_
  refine AO.nil ?_
  refine AX.seq ?_
  refine DR.startS [false, false, false, false, true, false, false, true] mix (by kernel_rfl) (fun hst => ?_)
  refine DR.p rfl rfl (s_fieldAddr Try.underlying26 rfl Try.sizeOf2 (by decide) rfl rfl) ?_
  refine DR.r rfl rfl (r_load rfl Try.isAgg2) (one_read (row_cell (S106.get (k := 1) rfl) rfl) (.of_flat0 rfl)) ?_
  refine DR.p rfl rfl (s_fieldAddr Try.underlying26 rfl Try.sizeOf2 (by decide) rfl rfl) ?_
  refine DR.r rfl rfl (r_load rfl Try.isAgg2) (one_read (row_cell (S106.get (k := 1) rfl) rfl) (.of_flat0 rfl)) ?_
  obtain ⟨rs108, h109, hd110⟩ := bnd_some hd
  obtain ⟨_, G119, hc118, p111, c112, T115, rfl, S120, B114, t116, s117⟩ := W_impl_square fu G104 a0_0 rs108 h109
  have S121 := S106.call S120
  refine DR.w rfl rfl (o_call (vs := [.int .i64 a0_0]) rfl Try.call119 hc118) (S120.len) ?_
  refine DR.p rfl rfl (p_build2 (vs := [(0, .int .i64 a0_0), (1, .slice p111 rs108.length c112)]) (cs := [.int .i64 a0_0, .slice p111 rs108.length c112]) Try.underlying26 rfl rfl rfl Try.sizeOf2 Try.sizeOf22 Try.zeroValue26 rfl rfl rfl rfl rfl) ?_
  obtain ⟨G122, i123, hii123, hHG122, S124⟩ := S121.new (AObj.row false ([.int .i64 0, .slice none 0 0]))
  refine DR.a rfl rfl hii123 hHG122 (a_alloc Try.zeroValue26 (flat_list rfl)) ?_
  obtain ⟨G126, hHG126, S127⟩ := S124.set (k := 0) (i := i123) rfl (AObj.row false ([.int .i64 a0_0, .slice p111 rs108.length c112]))
  refine DR.s rfl (s_storeAll (vs := [.int .i64 a0_0, .slice p111 rs108.length c112]) Try.sizeOf26 rfl rfl (ones_list rfl) (S124.get (k := 0) rfl) rfl rfl hHG126) (set_le hHG126) ?_
  refine DR.nil 8 [(1, 4), (6, 4)] hst (by kernel_rfl) ⟨(rd1 (fun h => S120.hold _ h)), (fun h => absurd h (by decide)), trivial⟩ ?_
  refine AX.seq ?_
  refine AX.seq ?_
  refine AX.region ?_
  refine AO.p rfl (s_fieldAddr Try.underlying26 rfl Try.sizeOf22 (by decide) rfl rfl) ?_
  refine AO.c rfl (s_load Try.isAgg22 rfl (row_cell (S127.get (k := 4) rfl) rfl)) ?_
  refine AO.p rfl (p_len_slice rfl Try.underlying22) ?_
  refine AO.p rfl (p_move rfl) ?_
  refine AO.nil ?_
  obtain ⟨r571, hl572, hd573⟩ := bnd_some hd110
  refine AX.cutQ (fun t' H' => ∃ (rs569 : List (List Int)) (T570 : Tb), rs569 = r571 ∧ St [] H H' [[(i105, AObj.row false ([.int .i64 0, .slice none 0 0]))], [(i123, AObj.row false ([.int .i64 a0_0, .slice p111 rs108.length c112]))], oseg p111 (tcells T570), tseg T570] ∧ rs569.length = rs108.length ∧ trows T570 = rs569 ∧ TSb T570 ∧ Am.Sub [(2, .pointer (some ⟨i105, 0, none⟩)), (3, .pointer (some ⟨i123, 0, none⟩))] t') ?_ ?_
  · refine AX.block ?_
    refine AX.loopF (fun s' t' H' => ∃ (rs422 : List (List Int)) (x424 : Int) (T423 : Tb), (rs422, x424) = s' ∧ St [] H H' [[(i105, AObj.row false ([.int .i64 0, .slice none 0 0]))], [(i123, AObj.row false ([.int .i64 a0_0, .slice p111 rs108.length c112]))], oseg p111 (tcells T423), tseg T423] ∧ rs422.length = rs108.length ∧ trows T423 = rs422 ∧ TSb T423 ∧ Am.Sub [(2, .pointer (some ⟨i105, 0, none⟩)), (3, .pointer (some ⟨i123, 0, none⟩)), (15, .slice p_a0_1 a0_1.length c_a0_1), (16, .int .i64 ((a0_1.length : Nat) : Int)), (17, .int .i64 x424)] t') hl572 ?_ ?_
    · skip
      have S574 := S127.front 2 rfl
      have S575 := S574.front 2 rfl
      have S576 := S575.front 2 rfl
      have S577 := S576.front 3 rfl
      have S578 := S577.keep 4
      exact ⟨rs108, 0, T115, rfl, S578, rfl, t116, s117, Sub.cons' rfl rfl (Sub.cons' rfl rfl (Sub.cons' rfl rfl (Sub.cons' rfl rfl (Sub.cons' rfl rfl (Sub.nil _)))))⟩
    · rintro n579 _ t' G583 ⟨rs422, x424, T423, rfl, S582, lrs422, tT423, sT423, hsub584⟩ o585 ho580 hk581
      refine AX.sub hsub584 ?_
      unfold D_impl_Square_turned_s0 at ho580
      refine AX.seq ?_
      refine AX.region ?_
      refine AO.p rfl (p_lss rfl rfl) ?_
      refine AO.nil ?_
      refine AX.seq ?_
      refine AX.cond rfl (fun c586 => ?_) (fun c586 => ?_)
      · have hd587 := bif_t c586 ho580
        refine AX.skip ?_
        refine AX.seq ?_
        refine AX.block ?_
        refine AX.seq ?_
        refine AX.region ?_
        refine AO.p rfl (p_move rfl) ?_
        obtain ⟨k588, hd589⟩ := chk_some hd587
        obtain ⟨p590, c591, e592, f593⟩ := tget t_a0_1 (lt_len rfl (inR_lt k588))
        refine AO.p rfl (s_indexV (q := off p_a0_1 + x424.toNat) Try.underlying22 Try.sizeOf68 rfl ((S582.view v_a0_1).p f593) rfl k588 (o1 _ _)) ?_
        refine AO.c rfl (s_load Try.isAgg68 rfl ((S582.view v_a0_1).get _ _ f593)) ?_
        refine AO.p rfl (p_assign rfl) ?_
        refine AO.p rfl (p_assign rfl) ?_
        refine AO.nil ?_
        refine AX.seq ?_
        refine AX.region ?_
        refine AO.p rfl (p_move rfl) ?_
        refine AO.p rfl (p_len_slice rfl Try.underlying68) ?_
        refine AO.p rfl (p_move rfl) ?_
        refine AO.nil ?_
        obtain ⟨r677, hl678, hd679⟩ := bnd_some hd589
        refine AX.cutQ (fun t' H' => ∃ (rs675 : List (List Int)) (T676 : Tb), rs675 = r677 ∧ St [] H H' [[(i105, AObj.row false ([.int .i64 0, .slice none 0 0]))], [(i123, AObj.row false ([.int .i64 a0_0, .slice p111 rs108.length c112]))], oseg p111 (tcells T676), tseg T676] ∧ rs675.length = rs108.length ∧ trows T676 = rs675 ∧ TSb T676 ∧ Am.Sub [(2, .pointer (some ⟨i105, 0, none⟩)), (3, .pointer (some ⟨i123, 0, none⟩)), (15, .slice p_a0_1 a0_1.length c_a0_1), (16, .int .i64 ((a0_1.length : Nat) : Int)), (17, .int .i64 x424)] t') ?_ ?_
        · refine AX.block ?_
          refine AX.loopF (fun s' t' H' => ∃ (rs648 : List (List Int)) (x650 : Int) (T649 : Tb), (rs648, x650) = s' ∧ St [] H H' [[(i105, AObj.row false ([.int .i64 0, .slice none 0 0]))], [(i123, AObj.row false ([.int .i64 a0_0, .slice p111 rs108.length c112]))], oseg p111 (tcells T649), tseg T649] ∧ rs648.length = rs108.length ∧ trows T649 = rs648 ∧ TSb T649 ∧ Am.Sub [(2, .pointer (some ⟨i105, 0, none⟩)), (3, .pointer (some ⟨i123, 0, none⟩)), (4, .int .i64 x424), (15, .slice p_a0_1 a0_1.length c_a0_1), (16, .int .i64 ((a0_1.length : Nat) : Int)), (17, .int .i64 x424), (22, .slice p590 ((rw_ a0_1 x424.toNat).length) c591), (23, .int .i64 (((rw_ a0_1 x424.toNat).length : Nat) : Int)), (24, .int .i64 x650)] t') hl678 ?_ ?_
          · skip
            have S680 := S582.front 3 rfl
            have S681 := S680.front 3 rfl
            have S682 := S681.front 3 rfl
            have S683 := S682.front 3 rfl
            exact ⟨rs422, 0, T423, rfl, S683, lrs422, tT423, sT423, Sub.cons' rfl rfl (Sub.cons' rfl rfl (Sub.cons' rfl rfl (Sub.cons' rfl rfl (Sub.cons' rfl rfl (Sub.cons' rfl rfl (Sub.cons' rfl rfl (Sub.cons' rfl rfl (Sub.cons' rfl rfl (Sub.nil _)))))))))⟩
          · rintro n684 _ t' G688 ⟨rs648, x650, T649, rfl, S687, lrs648, tT649, sT649, hsub689⟩ o690 ho685 hk686
            refine AX.sub hsub689 ?_
            unfold D_impl_Square_turned_s1 at ho685
            refine AX.seq ?_
            refine AX.region ?_
            refine AO.p rfl (p_lss rfl rfl) ?_
            refine AO.nil ?_
            refine AX.seq ?_
            refine AX.cond rfl (fun c691 => ?_) (fun c691 => ?_)
            · have hd692 := bif_t c691 ho685
              refine AX.skip ?_
              refine AX.seq ?_
              refine AX.block ?_
              refine AX.seq ?_
              refine AX.region ?_
              refine AO.p rfl (p_move rfl) ?_
              obtain ⟨k693, hd694⟩ := chk_some hd692
              refine AO.p rfl (s_indexV (q := off p590 + x650.toNat) Try.underlying68 Try.sizeOf2 rfl ((TVw.at (S687.tview w_a0_1) e592).p (ints_get (lt_len rfl (inR_lt k693)))) rfl k693 (o1 _ _)) ?_
              refine AO.c rfl (s_load Try.isAgg2 rfl ((TVw.at (S687.tview w_a0_1) e592).get _ _ (ints_get (lt_len rfl (inR_lt k693))))) ?_
              refine AO.p rfl (p_assign rfl) ?_
              refine AO.p rfl (p_assign rfl) ?_
              refine AO.nil ?_
              refine AX.region ?_
              refine AO.p rfl (s_fieldAddr Try.underlying26 rfl Try.sizeOf22 (by decide) rfl rfl) ?_
              refine AO.c rfl (s_load Try.isAgg22 rfl (row_cell (S687.get (k := 1) rfl) rfl)) ?_
              refine AO.p rfl (p_move rfl) ?_
              obtain ⟨k695, hd696⟩ := chk_some hd694
              refine AO.p rfl (s_indexV (q := x650.toNat) Try.underlying22 Try.sizeOf68 rfl (B114.at (inR_pos k695)) rfl k695 (z1 _)) ?_
              obtain ⟨p697, c698, e699, f700⟩ := tget tT649 (lt_len lrs648 (inR_lt k695))
              refine AO.c rfl (s_load Try.isAgg68 rfl (row_cell (S687.oat (k := 2) rfl (B114.at (inR_pos k695))) f700)) ?_
              refine AO.p rfl (p_move rfl) ?_
              refine AO.p rfl (p_move rfl) ?_
              obtain ⟨k701, hd702⟩ := chk_some hd696
              refine AO.p rfl (s_indexV (q := off p697 + x424.toNat) Try.underlying68 Try.sizeOf2 rfl ((TVw.at (S687.oviewT (k := 3) rfl sT649) e699).p (ints_get (lt_len rfl (inR_lt k701)))) rfl k701 (o1 _ _)) ?_
              obtain ⟨G703, hHG703, S704⟩ := S687.tset (k := 3) rfl e699 ((TSb.at sT649 e699).at (inR_pos k701)) ((rw_ rs648 x650.toNat).set x424.toNat (rd (rw_ a0_1 x424.toNat) x650.toNat))
              have S705 := S704.hdr (k := 2) (tcells_set (xs' := ((rw_ rs648 x650.toNat).set x424.toNat (rd (rw_ a0_1 x424.toNat) x650.toNat))) e699 (len_set rfl)).symm rfl
              refine AO.s (s_storeO (o := off p697 + x424.toNat) (q := x424.toNat) (off0 ((TSb.at sT649 e699).at (inR_pos k701)) _) Try.sizeOf2 rfl rfl rfl (S687.tat (k := 3) rfl e699 ((TSb.at sT649 e699).at (inR_pos k701))) (lt_len (ints_length _) (inR_lt k701)) ((congrArg (fun l => List.set _ _ (AObj.row false l)) (ints_set _ _ _)).trans hHG703)) ?_
              refine AO.nil ?_
              refine AX.region ?_
              obtain ⟨k706, hd707⟩ := chk_some hd702
              refine AO.p rfl (p_addE rfl rfl k706) ?_
              refine AO.p rfl (p_move rfl) ?_
              refine AO.nil ?_
              obtain rfl := some_inj hd707
              have S709 := S705.front 3 rfl
              have S710 := S709.front 3 rfl
              have S711 := S710.front 3 rfl
              have S712 := S711.front 3 rfl
              exact ⟨((rs648.set x650.toNat ((rw_ rs648 x650.toNat).set x424.toNat (rd (rw_ a0_1 x424.toNat) x650.toNat))), x650 + 1), hk686, (rs648.set x650.toNat ((rw_ rs648 x650.toNat).set x424.toNat (rd (rw_ a0_1 x424.toNat) x650.toNat))), (x650 + 1), (T649.set x650.toNat (p697, c698, ((rw_ rs648 x650.toNat).set x424.toNat (rd (rw_ a0_1 x424.toNat) x650.toNat)))), rfl, S712, (len_set lrs648), (trows_set' tT649), (TSb.set sT649 e699 (len_set rfl)), Sub.cons' rfl rfl (Sub.cons' rfl rfl (Sub.cons' rfl rfl (Sub.cons' rfl rfl (Sub.cons' rfl rfl (Sub.cons' rfl rfl (Sub.cons' rfl rfl (Sub.cons' rfl rfl (Sub.cons' rfl rfl (Sub.nil _)))))))))⟩
            · have hd713 := bif_f c691 ho685
              refine AX.exit ?_
              obtain rfl := some_inj hd713
              have S714 := S687.front 3 rfl
              have S715 := S714.front 3 rfl
              have S716 := S715.front 3 rfl
              have S717 := S716.front 3 rfl
              exact ⟨rs648, T649, hk686, S717, lrs648, tT649, sT649, Sub.cons' rfl rfl (Sub.cons' rfl rfl (Sub.cons' rfl rfl (Sub.cons' rfl rfl (Sub.cons' rfl rfl (Sub.nil _)))))⟩
        · rintro t' G719 ⟨rs675, T676, rfl, S718, lrs675, tT676, sT676, hsub720⟩
          refine AX.sub hsub720 ?_
          refine AX.region ?_
          obtain ⟨k721, hd722⟩ := chk_some hd679
          refine AO.p rfl (p_addE rfl rfl k721) ?_
          refine AO.p rfl (p_move rfl) ?_
          refine AO.nil ?_
          obtain rfl := some_inj hd722
          have S724 := S718.front 3 rfl
          have S725 := S724.front 3 rfl
          have S726 := S725.front 3 rfl
          have S727 := S726.front 3 rfl
          exact ⟨(rs675, x424 + 1), hk581, rs675, (x424 + 1), T676, rfl, S727, lrs675, tT676, sT676, Sub.cons' rfl rfl (Sub.cons' rfl rfl (Sub.cons' rfl rfl (Sub.cons' rfl rfl (Sub.cons' rfl rfl (Sub.nil _)))))⟩
      · have hd728 := bif_f c586 ho580
        refine AX.exit ?_
        obtain rfl := some_inj hd728
        have S729 := S582.front 3 rfl
        have S730 := S729.front 3 rfl
        have S731 := S730.front 3 rfl
        have S732 := S731.front 3 rfl
        exact ⟨rs422, T423, hk581, S732, lrs422, tT423, sT423, Sub.cons' rfl rfl (Sub.cons' rfl rfl (Sub.nil _))⟩
  · rintro t' G734 ⟨rs569, T570, rfl, S733, lrs569, tT570, sT570, hsub735⟩
    refine AX.sub hsub735 ?_
    refine AX.seq ?_
    refine AX.region ?_
    refine AO.c rfl (s_loadN (vs := [.int .i64 a0_0, .slice p111 rs108.length c112]) Try.isAgg26 Try.sizeOf26 rfl rfl (row_cells (S733.get (k := 1) rfl))) ?_
    obtain ⟨G736, hHG736, S737⟩ := S733.set (k := 0) (i := i105) rfl (AObj.row false ([.int .i64 a0_0, .slice p111 rs108.length c112]))
    refine AO.s (s_storeAll (vs := [.int .i64 a0_0, .slice p111 rs108.length c112]) Try.sizeOf26 rfl rfl (ones_list rfl) (S733.get (k := 0) rfl) rfl rfl hHG736) ?_
    refine AO.nil ?_
    refine AX.ret ?_
    obtain ⟨rfl, rfl⟩ := Prod.mk.inj (some_inj hd573)
    have S739 := S737.front 3 rfl
    have S740 := S739.front 3 rfl
    have S741 := S740.keep 2
    exact ⟨.inr rfl, _, res1 rfl (rv_cell (vs := [.int .i64 a0_0, .slice p111 rs108.length c112]) rfl Try.isAgg26 Try.sizeOf26 rfl (row_cells (S737.get (k := 0) rfl))), p111, c112, T570, (by rw [show List.length rs569 = rs108.length from lrs569]), S741, (by rw [show List.length rs569 = rs108.length from lrs569]; exact B114), tT570, sT570⟩

set_option maxHeartbeats 4000000 in
theorem W_impl_TransposeSquare (fu : Nat) (H : AHeap) (a0_0 : Int) (p_a0_1 : Option Addr) (c_a0_1 : Nat) (T_a0_1 : Tb) (a0_1 : List (List Int)) (t_a0_1 : trows T_a0_1 = a0_1) (v_a0_1 : Vw H p_a0_1 a0_1.length c_a0_1 (tcells T_a0_1)) (w_a0_1 : TVw H T_a0_1) (r0 : Int) (r1 : List (List Int)) (r2 : Int) (hd : D_impl_TransposeSquare fu a0_0 a0_1 = some (r0, r1, r2)) : ∃ v G', ACall Try.prog 18 [.agg [.int .i64 a0_0, .slice p_a0_1 a0_1.length c_a0_1].toArray] H v G' ∧ ∃ (p_r1 : Option Addr) (c_r1 : Nat) (T_r1 : Tb), (v = .tuple #[.agg [.int .i64 r0, .slice p_r1 r1.length c_r1].toArray, .int .i64 r2]) ∧ St [] H G' [oseg p_r1 (tcells T_r1), tseg T_r1] ∧ Sb p_r1 r1.length c_r1 1 ∧ trows T_r1 = r1 ∧ TSb T_r1 := by
  refine ACall.bodyX (args := [.agg [.int .i64 a0_0, .slice p_a0_1 a0_1.length c_a0_1].toArray]) (N := 10) [(0, .agg [.int .i64 a0_0, .slice p_a0_1 a0_1.length c_a0_1].toArray)] (fun v G' => ∃ (p_r1 : Option Addr) (c_r1 : Nat) (T_r1 : Tb), (v = .tuple #[.agg [.int .i64 r0, .slice p_r1 r1.length c_r1].toArray, .int .i64 r2]) ∧ St [] H G' [oseg p_r1 (tcells T_r1), tseg T_r1] ∧ Sb p_r1 r1.length c_r1 1 ∧ trows T_r1 = r1 ∧ TSb T_r1) Try.func18 rfl rfl rfl rfl ?_
  unfold D_impl_TransposeSquare at hd
  have S0 : St [] H H [] := St.nil H
  refine AX.seq ?_
  refine AX.region ?_
  obtain ⟨G100, i101, hii101, hHG100, S102⟩ := S0.new (AObj.row false ([.int .i64 a0_0, .slice p_a0_1 a0_1.length c_a0_1]))
  refine AO.c rfl (s_box (i := i101) (cs := [.int .i64 a0_0, .slice p_a0_1 a0_1.length c_a0_1]) rfl hii101 rfl hHG100) ?_
  obtain ⟨G104, i105, hii105, hHG104, S106⟩ := S102.new (AObj.row false ([.int .i64 0, .slice none 0 0]))
  refine AO.c rfl (s_alloc (i := i105) (cs := [.int .i64 0, .slice none 0 0]) Try.zeroValue26 rfl rfl hii105 hHG104) ?_
  refine AO.p rfl (p_assign rfl) ?_
  refine AO.nil ?_
  refine AX.seq ?_
  refine AX.seq ?_
  refine AX.region ?_
  refine AO.c rfl (s_loadN (vs := [.int .i64 a0_0, .slice p_a0_1 a0_1.length c_a0_1]) Try.isAgg26 Try.sizeOf26 rfl rfl (row_cells (S106.get (k := 1) rfl))) ?_
  obtain ⟨b108, h109, hd110⟩ := bnd_some hd
  refine AO.c rfl (o_call (vs := [.agg [.int .i64 a0_0, .slice p_a0_1 a0_1.length c_a0_1].toArray]) rfl Try.call60 (W_impl_IsSquare fu G104 a0_0 p_a0_1 c_a0_1 T_a0_1 a0_1 t_a0_1 (S106.view v_a0_1) (S106.tview w_a0_1) b108 h109)) ?_
  refine AO.p rfl (p_not rfl) ?_
  refine AO.nil ?_
  refine AX.cond rfl (fun c112 => ?_) (fun c112 => ?_)
  · have hd113 := bif_t c112 hd110
    refine AX.seq ?_
    refine AX.region ?_
    refine AO.p rfl (p_build2 (vs := []) (cs := [.int .i64 0, .slice none 0 0]) Try.underlying26 rfl rfl rfl Try.sizeOf2 Try.sizeOf22 Try.zeroValue26 rfl rfl rfl rfl rfl) ?_
    obtain ⟨G114, hHG114, S115⟩ := S106.set (k := 0) (i := i105) rfl (AObj.row false ([.int .i64 0, .slice none 0 0]))
    refine AO.s (s_storeAll (vs := [.int .i64 0, .slice none 0 0]) Try.sizeOf26 rfl rfl (ones_list rfl) (S106.get (k := 0) rfl) rfl rfl hHG114) ?_
    refine AO.p rfl (p_assign rfl) ?_
    refine AO.nil ?_
    refine AX.ret ?_
    obtain ⟨rfl, z116⟩ := Prod.mk.inj (some_inj hd113)
    obtain ⟨rfl, rfl⟩ := Prod.mk.inj z116
    have S118 : St [] H G114 (tseg [] :: _) := S115.nilseg 0
    have S119 : St [] H G114 (oseg none (tcells []) :: _) := S118.nilseg 0
    have S120 := S119.keep 2
    exact ⟨.inr rfl, _, res2 rfl (rv_cell (vs := [.int .i64 0, .slice none 0 0]) rfl Try.isAgg26 Try.sizeOf26 rfl (row_cells (S115.get (k := 0) rfl))) (rv_tmp rfl), none, 0, [], rfl, S120, Sb.nil, rfl, TSb.nil⟩
  · have hd121 := bif_f c112 hd110
    refine AX.skip ?_
    refine AX.seq ?_
    refine AX.region ?_
    refine AO.c rfl (s_loadN (vs := [.int .i64 a0_0, .slice p_a0_1 a0_1.length c_a0_1]) Try.isAgg26 Try.sizeOf26 rfl rfl (row_cells (S106.get (k := 1) rfl))) ?_
    obtain ⟨⟨x122, rs123⟩, h124, hd125⟩ := bnd_some hd121
    obtain ⟨_, G134, hc133, p126, c127, T130, rfl, S135, B129, t131, s132⟩ := W_impl_Square_turned fu G104 a0_0 p_a0_1 c_a0_1 T_a0_1 a0_1 t_a0_1 (S106.view v_a0_1) (S106.tview w_a0_1) x122 rs123 h124
    have S136 := S106.call S135
    refine AO.c rfl (o_call (vs := [.agg [.int .i64 a0_0, .slice p_a0_1 a0_1.length c_a0_1].toArray]) rfl Try.call61 hc133) ?_
    obtain ⟨G137, hHG137, S138⟩ := S136.set (k := 2) (i := i105) rfl (AObj.row false ([.int .i64 x122, .slice p126 rs123.length c127]))
    refine AO.s (s_storeAll (vs := [.int .i64 x122, .slice p126 rs123.length c127]) Try.sizeOf26 rfl rfl (ones_list rfl) (S136.get (k := 2) rfl) rfl rfl hHG137) ?_
    refine AO.p rfl (p_assign rfl) ?_
    refine AO.nil ?_
    refine AX.ret ?_
    obtain ⟨rfl, z139⟩ := Prod.mk.inj (some_inj hd125)
    obtain ⟨rfl, rfl⟩ := Prod.mk.inj z139
    have S141 := S138.front 1 rfl
    have S142 := S141.front 1 rfl
    have S143 := S142.keep 2
    exact ⟨.inr rfl, _, res2 rfl (rv_cell (vs := [.int .i64 x122, .slice p126 rs123.length c127]) rfl Try.isAgg26 Try.sizeOf26 rfl (row_cells (S138.get (k := 2) rfl))) (rv_tmp rfl), p126, c127, T130, rfl, S143, B129, t131, s132⟩

set_option maxHeartbeats 4000000 in
theorem W_spec_l04Rows (fu : Nat) (H : AHeap) (a0_0 : Int) (p_a0_1 : Option Addr) (c_a0_1 : Nat) (T_a0_1 : Tb) (a0_1 : List (List Int)) (t_a0_1 : trows T_a0_1 = a0_1) (v_a0_1 : Vw H p_a0_1 a0_1.length c_a0_1 (tcells T_a0_1)) (w_a0_1 : TVw H T_a0_1) (r0 : Int) (r1 : List (List Int)) (r2 : Bool) (hd : D_spec_l04Rows fu a0_0 a0_1 = some (r0, r1, r2)) : ∃ v G', ACall Try.prog 94 [.agg [.int .i64 a0_0, .slice p_a0_1 a0_1.length c_a0_1].toArray] H v G' ∧ ∃ (p_r1 : Option Addr) (c_r1 : Nat), (v = .tuple #[.agg [.int .i64 r0, .slice p_r1 r1.length c_r1].toArray, .bool r2]) ∧ St [] H G' [oseg p_r1 (ints r1.flatten)] ∧ Sb p_r1 r1.length c_r1 14 ∧ All 14 r1 := by
  refine ACall.bodyX (args := [.agg [.int .i64 a0_0, .slice p_a0_1 a0_1.length c_a0_1].toArray]) (N := 77) [(0, .agg [.int .i64 a0_0, .slice p_a0_1 a0_1.length c_a0_1].toArray)] (fun v G' => ∃ (p_r1 : Option Addr) (c_r1 : Nat), (v = .tuple #[.agg [.int .i64 r0, .slice p_r1 r1.length c_r1].toArray, .bool r2]) ∧ St [] H G' [oseg p_r1 (ints r1.flatten)] ∧ Sb p_r1 r1.length c_r1 14 ∧ All 14 r1) Try.func94 rfl rfl rfl rfl ?_
  unfold D_spec_l04Rows at hd
  have S0 : St [] H H [] := St.nil H
  refine AX.seq ?_
  refine AX.region ?_
  obtain ⟨G100, i101, hii101, hHG100, S102⟩ := S0.new (AObj.row false ([.int .i64 a0_0, .slice p_a0_1 a0_1.length c_a0_1]))
  refine AO.c rfl (s_box (i := i101) (cs := [.int .i64 a0_0, .slice p_a0_1 a0_1.length c_a0_1]) rfl hii101 rfl hHG100) ?_
  obtain ⟨G104, i105, hii105, hHG104, S106⟩ := S102.new (AObj.row false ([.int .i64 0, .slice none 0 0]))
  refine AO.c rfl (s_alloc (i := i105) (cs := [.int .i64 0, .slice none 0 0]) Try.zeroValue39 rfl rfl hii105 hHG104) ?_
  refine AO.p rfl (p_assign rfl) ?_
  refine AO.nil ?_
  refine AX.seq ?_
  refine AX.region ?_
  refine AO.p rfl (s_fieldAddr Try.underlying26 rfl Try.sizeOf2 (by decide) rfl rfl) ?_
  refine AO.c rfl (s_load Try.isAgg2 rfl (row_cell (S106.get (k := 1) rfl) rfl)) ?_
  obtain ⟨k108, hd109⟩ := chk_some hd
  refine AO.p rfl (p_addE rfl rfl k108) ?_
  obtain ⟨G110, i111, hii111, hHG110, S112⟩ := S106.new (AObj.row false (ints [].flatten))
  refine AO.c rfl (s_build0 (i := i111) Try.underlying37 Try.sizeOf65 hii111 hHG110) ?_
  refine AO.p rfl (p_build2 (vs := [(0, .int .i64 (a0_0 + 1)), (1, .slice (some (Addr.mk i111 0 none)) 0 0)]) (cs := [.int .i64 (a0_0 + 1), .slice (some (Addr.mk i111 0 none)) 0 0]) Try.underlying39 rfl rfl rfl Try.sizeOf2 Try.sizeOf37 Try.zeroValue39 rfl rfl rfl rfl rfl) ?_
  obtain ⟨G114, i115, hii115, hHG114, S116⟩ := S112.new (AObj.row false ([.int .i64 0, .slice none 0 0]))
  refine AO.c rfl (s_alloc (i := i115) (cs := [.int .i64 0, .slice none 0 0]) Try.zeroValue39 rfl rfl hii115 hHG114) ?_
  obtain ⟨G118, hHG118, S119⟩ := S116.set (k := 0) (i := i115) rfl (AObj.row false ([.int .i64 (a0_0 + 1), .slice (some (Addr.mk i111 0 none)) 0 0]))
  refine AO.s (s_storeAll (vs := [.int .i64 (a0_0 + 1), .slice (some (Addr.mk i111 0 none)) 0 0]) Try.sizeOf39 rfl rfl (ones_list rfl) (S116.get (k := 0) rfl) rfl rfl hHG118) ?_
  refine AO.nil ?_
  refine AX.seq ?_
  refine AX.seq ?_
  refine AX.region ?_
  refine AO.p rfl (p_assign rfl) ?_
  refine AO.nil ?_
  obtain ⟨r1391, hl1392, hd1393⟩ := bnd_some hd109
  refine AX.cutQ (fun t' H' => ∃ (rs1390 : List (List Int)) (p1388 : Option Addr) (c1389 : Nat), .inl rs1390 = r1391 ∧ St [] H H' [[(i105, AObj.row false ([.int .i64 0, .slice none 0 0]))], [(i115, AObj.row false ([.int .i64 (a0_0 + 1), .slice p1388 rs1390.length c1389]))], oseg p1388 (ints rs1390.flatten)] ∧ All 14 rs1390 ∧ Sb p1388 (rs1390.length) c1389 14 ∧ Am.Sub [(2, .pointer (some ⟨i105, 0, none⟩)), (4, .pointer (some ⟨i115, 0, none⟩))] t') ?_ ?_
  · refine AX.block ?_
    refine AX.loopF (fun s' t' H' => ∃ (rs968 : List (List Int)) (x969 : Int) (p966 : Option Addr) (c967 : Nat), (rs968, x969) = s' ∧ St [] H H' [[(i101, AObj.row false ([.int .i64 a0_0, .slice p_a0_1 a0_1.length c_a0_1]))], [(i105, AObj.row false ([.int .i64 0, .slice none 0 0]))], [(i115, AObj.row false ([.int .i64 (a0_0 + 1), .slice p966 rs968.length c967]))], oseg p966 (ints rs968.flatten)] ∧ All 14 rs968 ∧ Sb p966 (rs968.length) c967 14 ∧ Am.Sub [(1, .pointer (some ⟨i101, 0, none⟩)), (2, .pointer (some ⟨i105, 0, none⟩)), (4, .pointer (some ⟨i115, 0, none⟩)), (5, .int .i64 x969)] t') hl1392 ?_ ?_
    · skip
      have S1394 := S119.front 1 rfl
      have S1395 := S1394.front 1 rfl
      have S1396 := S1395.front 2 rfl
      have S1397 := S1396.front 3 rfl
      exact ⟨[], 0, (some (Addr.mk i111 0 none)), 0, rfl, S1397, all_nil, (Sb.lit (n := 0) (by decide)), Sub.cons' rfl rfl (Sub.cons' rfl rfl (Sub.cons' rfl rfl (Sub.cons' rfl rfl (Sub.nil _))))⟩
    · rintro n1398 _ t' G1402 ⟨rs968, x969, p966, c967, rfl, S1401, ars968, Bo965, hsub1403⟩ o1404 ho1399 hk1400
      refine AX.sub hsub1403 ?_
      unfold D_spec_l04Rows_s0 at ho1399
      refine AX.seq ?_
      refine AX.seq ?_
      refine AX.region ?_
      refine AO.p rfl (p_move rfl) ?_
      refine AO.p rfl (s_fieldAddr Try.underlying26 rfl Try.sizeOf22 (by decide) rfl rfl) ?_
      refine AO.c rfl (s_load Try.isAgg22 rfl (row_cell (S1401.get (k := 0) rfl) rfl)) ?_
      refine AO.p rfl (p_len_slice rfl Try.underlying22) ?_
      refine AO.p rfl (p_lss rfl rfl) ?_
      refine AO.nil ?_
      refine AX.cond rfl (fun c1405 => ?_) (fun c1405 => ?_)
      · have hd1406 := bif_t c1405 ho1399
        refine AX.skip ?_
        refine AX.seq ?_
        refine AX.block ?_
        refine AX.seq ?_
        refine AX.region ?_
        refine AO.p rfl (s_fieldAddr Try.underlying26 rfl Try.sizeOf2 (by decide) rfl rfl) ?_
        refine AO.c rfl (s_load Try.isAgg2 rfl (row_cell (S1401.get (k := 0) rfl) rfl)) ?_
        obtain ⟨k1407, hd1408⟩ := chk_some hd1406
        refine AO.p rfl (p_addE rfl rfl k1407) ?_
        obtain ⟨xs1409, h1410, hd1411⟩ := bnd_some hd1408
        obtain ⟨hc1413, l1414⟩ := W_spec_l01Free fu G1402 (a0_0 + 1) xs1409 h1410
        refine AO.c rfl (o_call (vs := [.int .i64 (a0_0 + 1)]) rfl Try.call136 hc1413) ?_
        obtain ⟨G1415, i1416, hii1416, hHG1415, S1417⟩ := S1401.new (AObj.row false (ints (List.replicate 14 0)))
        refine AO.c rfl (s_alloc (i := i1416) (cs := ints (List.replicate 14 0)) Try.zeroValue65 rfl rfl hii1416 hHG1415) ?_
        obtain ⟨G1419, hHG1419, S1420⟩ := S1417.set (k := 0) (i := i1416) rfl (AObj.row false (ints xs1409))
        refine AO.s (s_storeAll (vs := ints xs1409) Try.sizeOf65 rfl rfl ints_one (S1417.get (k := 0) rfl) (ints_len l1414) (ints_len len_rep) hHG1419) ?_
        refine AO.nil ?_
        refine AX.seq ?_
        refine AX.seq ?_
        refine AX.region ?_
        refine AO.p rfl (p_assign rfl) ?_
        refine AO.nil ?_
        obtain ⟨r1689, hl1690, hd1691⟩ := bnd_some hd1411
        refine AX.cutQ (fun t' H' => ∃ (xs1688 : List Int), .inl xs1688 = r1689 ∧ St [] H H' [[(i101, AObj.row false ([.int .i64 a0_0, .slice p_a0_1 a0_1.length c_a0_1]))], [(i105, AObj.row false ([.int .i64 0, .slice none 0 0]))], [(i115, AObj.row false ([.int .i64 (a0_0 + 1), .slice p966 rs968.length c967]))], oseg p966 (ints rs968.flatten), [(i1416, AObj.row false (ints xs1688))]] ∧ xs1688.length = 14 ∧ Am.Sub [(1, .pointer (some ⟨i101, 0, none⟩)), (2, .pointer (some ⟨i105, 0, none⟩)), (4, .pointer (some ⟨i115, 0, none⟩)), (5, .int .i64 x969), (6, .pointer (some ⟨i1416, 0, none⟩))] t') ?_ ?_
        · refine AX.block ?_
          refine AX.loopF (fun s' t' H' => ∃ (xs1600 : List Int) (x1601 : Int), (xs1600, x1601) = s' ∧ St [] H H' [[(i101, AObj.row false ([.int .i64 a0_0, .slice p_a0_1 a0_1.length c_a0_1]))], [(i105, AObj.row false ([.int .i64 0, .slice none 0 0]))], [(i115, AObj.row false ([.int .i64 (a0_0 + 1), .slice p966 rs968.length c967]))], oseg p966 (ints rs968.flatten), [(i1416, AObj.row false (ints xs1600))]] ∧ xs1600.length = 14 ∧ Am.Sub [(1, .pointer (some ⟨i101, 0, none⟩)), (2, .pointer (some ⟨i105, 0, none⟩)), (4, .pointer (some ⟨i115, 0, none⟩)), (5, .int .i64 x969), (6, .pointer (some ⟨i1416, 0, none⟩)), (7, .int .i64 x1601)] t') hl1690 ?_ ?_
          · skip
            have S1692 := S1420.front 0 rfl
            have S1693 := S1692.front 4 rfl
            have S1694 := S1693.front 4 rfl
            have S1695 := S1694.front 4 rfl
            have S1696 := S1695.front 4 rfl
            exact ⟨xs1409, 0, rfl, S1696, l1414, Sub.cons' rfl rfl (Sub.cons' rfl rfl (Sub.cons' rfl rfl (Sub.cons' rfl rfl (Sub.cons' rfl rfl (Sub.cons' rfl rfl (Sub.nil _))))))⟩
          · rintro n1697 _ t' G1701 ⟨xs1600, x1601, rfl, S1700, lxs1600, hsub1702⟩ o1703 ho1698 hk1699
            refine AX.sub hsub1702 ?_
            unfold D_spec_l04Rows_s1 at ho1698
            refine AX.seq ?_
            refine AX.seq ?_
            refine AX.region ?_
            refine AO.p rfl (p_move rfl) ?_
            refine AO.p rfl (s_fieldAddr Try.underlying26 rfl Try.sizeOf22 (by decide) rfl rfl) ?_
            refine AO.c rfl (s_load Try.isAgg22 rfl (row_cell (S1700.get (k := 0) rfl) rfl)) ?_
            refine AO.p rfl (p_move rfl) ?_
            obtain ⟨k1704, hd1705⟩ := chk_some ho1698
            obtain ⟨p1706, c1707, e1708, f1709⟩ := tget t_a0_1 (lt_len rfl (inR_lt k1704))
            refine AO.p rfl (s_indexV (q := off p_a0_1 + x969.toNat) Try.underlying22 Try.sizeOf68 rfl ((S1700.view v_a0_1).p f1709) rfl k1704 (o1 _ _)) ?_
            refine AO.c rfl (s_load Try.isAgg68 rfl ((S1700.view v_a0_1).get _ _ f1709)) ?_
            refine AO.p rfl (p_len_slice rfl Try.underlying68) ?_
            refine AO.p rfl (p_lss rfl rfl) ?_
            refine AO.nil ?_
            refine AX.cond rfl (fun c1710 => ?_) (fun c1710 => ?_)
            · have hd1711 := bif_t c1710 hd1705
              refine AX.skip ?_
              refine AX.seq ?_
              refine AX.block ?_
              refine AX.seq ?_
              refine AX.region ?_
              refine AO.p rfl (s_fieldAddr Try.underlying26 rfl Try.sizeOf22 (by decide) rfl rfl) ?_
              refine AO.c rfl (s_load Try.isAgg22 rfl (row_cell (S1700.get (k := 0) rfl) rfl)) ?_
              refine AO.p rfl (p_move rfl) ?_
              obtain ⟨k1712, hd1713⟩ := chk_some hd1711
              obtain ⟨p1714, c1715, e1716, f1717⟩ := tget t_a0_1 (lt_len rfl (inR_lt k1712))
              refine AO.p rfl (s_indexV (q := off p_a0_1 + x969.toNat) Try.underlying22 Try.sizeOf68 rfl ((S1700.view v_a0_1).p f1717) rfl k1712 (o1 _ _)) ?_
              refine AO.c rfl (s_load Try.isAgg68 rfl ((S1700.view v_a0_1).get _ _ f1717)) ?_
              refine AO.p rfl (p_move rfl) ?_
              obtain ⟨k1718, hd1719⟩ := chk_some hd1713
              refine AO.p rfl (s_indexV (q := off p1714 + x1601.toNat) Try.underlying68 Try.sizeOf2 rfl ((TVw.at (S1700.tview w_a0_1) e1716).p (ints_get (lt_len rfl (inR_lt k1718)))) rfl k1718 (o1 _ _)) ?_
              refine AO.c rfl (s_load Try.isAgg2 rfl ((TVw.at (S1700.tview w_a0_1) e1716).get _ _ (ints_get (lt_len rfl (inR_lt k1718))))) ?_
              refine AO.p rfl (p_assign rfl) ?_
              refine AO.nil ?_
              refine AX.seq ?_
              refine AX.region ?_
              refine AO.p rfl (p_move rfl) ?_
              refine AO.p rfl (p_geq rfl rfl) ?_
              refine AO.nil ?_
              refine AX.cond rfl (fun c1720 => ?_) (fun c1720 => ?_)
              · have hd1721 := bif_t c1720 hd1719
                refine AX.seq ?_
                refine AX.region ?_
                refine AO.p rfl (p_move rfl) ?_
                obtain ⟨k1722, hd1723⟩ := chk_some hd1721
                refine AO.p rfl (p_quoE rfl rfl k1722) ?_
                refine AO.p rfl (p_move rfl) ?_
                refine AO.p rfl (p_remE rfl rfl (by decide)) ?_
                refine AO.p rfl (p_assign rfl) ?_
                refine AO.p rfl (p_assign rfl) ?_
                refine AO.nil ?_
                refine AX.seq ?_
                obtain ⟨r1737, hb1738, hd1739⟩ := bnd_some hd1723
                refine AX.cut (fun t' H' => ∃ (b1736 : Bool), b1736 = r1737 ∧ St [] H H' [[(i101, AObj.row false ([.int .i64 a0_0, .slice p_a0_1 a0_1.length c_a0_1]))], [(i105, AObj.row false ([.int .i64 0, .slice none 0 0]))], [(i115, AObj.row false ([.int .i64 (a0_0 + 1), .slice p966 rs968.length c967]))], oseg p966 (ints rs968.flatten), [(i1416, AObj.row false (ints xs1600))]] ∧ Am.Sub [(1, .pointer (some ⟨i101, 0, none⟩)), (2, .pointer (some ⟨i105, 0, none⟩)), (4, .pointer (some ⟨i115, 0, none⟩)), (5, .int .i64 x969), (6, .pointer (some ⟨i1416, 0, none⟩)), (7, .int .i64 x1601), (9, .int .i64 ((rd (rw_ a0_1 x969.toNat) x1601.toNat).tdiv 14)), (10, .int .i64 ((rd (rw_ a0_1 x969.toNat) x1601.toNat).tmod 14)), (62, .bool b1736)] t') ?_ ?_
                · skip
                  refine AX.region ?_
                  refine AO.p rfl (p_move rfl) ?_
                  obtain ⟨k1740, hd1741⟩ := chk_some hb1738
                  refine AO.p rfl (s_indexAr (q := ((rd (rw_ a0_1 x969.toNat) x1601.toNat).tdiv 14).toNat) Try.underlying65 Try.sizeOf2 rfl rfl k1740 (z1 _)) ?_
                  refine AO.c rfl (s_load Try.isAgg2 rfl (row_cell (S1700.get (k := 4) rfl) (ints_get (lt_len lxs1600 (inR_lt k1740))))) ?_
                  refine AO.p rfl (p_move rfl) ?_
                  refine AO.p rfl (p_neq rfl rfl) ?_
                  refine AO.p rfl (p_move rfl) ?_
                  refine AO.cases (d := 56) rfl (fun c1742 => ?_) (fun c1742 => ?_)
                  · have hd1743 := bif_t c1742 hd1741
                    refine AO.gn rfl rfl rfl ?_
                    refine AO.gn rfl rfl rfl ?_
                    refine AO.gn rfl rfl rfl ?_
                    refine AO.gn rfl rfl rfl ?_
                    refine AO.gn rfl rfl rfl ?_
                    refine AO.p rfl (p_pickT rfl rfl) ?_
                    refine AO.nil ?_
                    have S1744 := S1700.front 4 rfl
                    have S1745 := S1744.front 4 rfl
                    have S1746 := S1745.front 4 rfl
                    have S1747 := S1746.front 4 rfl
                    have S1748 := S1747.front 4 rfl
                    exact ⟨true, (some_inj hd1743), S1748, Sub.cons' rfl rfl (Sub.cons' rfl rfl (Sub.cons' rfl rfl (Sub.cons' rfl rfl (Sub.cons' rfl rfl (Sub.cons' rfl rfl (Sub.cons' rfl rfl (Sub.cons' rfl rfl (Sub.cons' rfl rfl (Sub.nil _)))))))))⟩
                  · have hd1749 := bif_f c1742 hd1741
                    refine AO.gp rfl rfl rfl (p_move rfl) ?_
                    obtain ⟨k1750, hd1751⟩ := chk_some hd1749
                    refine AO.gp rfl rfl rfl (s_indexAr (q := ((rd (rw_ a0_1 x969.toNat) x1601.toNat).tmod 14).toNat) Try.underlying65 Try.sizeOf2 rfl rfl k1750 (z1 _)) ?_
                    refine AO.gc rfl rfl rfl (s_load Try.isAgg2 rfl (row_cell (S1700.get (k := 4) rfl) (ints_get (lt_len lxs1600 (inR_lt k1750))))) ?_
                    refine AO.gp rfl rfl rfl (p_move rfl) ?_
                    refine AO.gp rfl rfl rfl (p_neq rfl rfl) ?_
                    refine AO.p rfl (p_pickF rfl rfl) ?_
                    refine AO.nil ?_
                    have S1752 := S1700.front 4 rfl
                    have S1753 := S1752.front 4 rfl
                    have S1754 := S1753.front 4 rfl
                    have S1755 := S1754.front 4 rfl
                    have S1756 := S1755.front 4 rfl
                    exact ⟨(!decide (rd xs1600 (((rd (rw_ a0_1 x969.toNat) x1601.toNat).tmod 14).toNat) = (rd (rw_ a0_1 x969.toNat) x1601.toNat).tmod 14)), (some_inj hd1751), S1756, Sub.cons' rfl rfl (Sub.cons' rfl rfl (Sub.cons' rfl rfl (Sub.cons' rfl rfl (Sub.cons' rfl rfl (Sub.cons' rfl rfl (Sub.cons' rfl rfl (Sub.cons' rfl rfl (Sub.cons' rfl rfl (Sub.nil _)))))))))⟩
                · rintro t' G1758 ⟨b1736, rfl, S1757, hsub1759⟩
                  refine AX.sub hsub1759 ?_
                  refine AX.cond rfl (fun c1760 => ?_) (fun c1760 => ?_)
                  · have hd1761 := bif_t c1760 hd1739
                    refine AX.seq ?_
                    refine AX.region ?_
                    refine AO.p rfl (p_build2 (vs := []) (cs := [.int .i64 0, .slice none 0 0]) Try.underlying39 rfl rfl rfl Try.sizeOf2 Try.sizeOf37 Try.zeroValue39 rfl rfl rfl rfl rfl) ?_
                    obtain ⟨G1762, hHG1762, S1763⟩ := S1757.set (k := 1) (i := i105) rfl (AObj.row false ([.int .i64 0, .slice none 0 0]))
                    refine AO.s (s_storeAll (vs := [.int .i64 0, .slice none 0 0]) Try.sizeOf39 rfl rfl (ones_list rfl) (S1757.get (k := 1) rfl) rfl rfl hHG1762) ?_
                    refine AO.p rfl (p_assign rfl) ?_
                    refine AO.nil ?_
                    refine AX.ret ?_
                    obtain rfl := some_inj hd1761
                    have z1764 : _ = r1689 := hk1699
                    subst z1764
                    obtain rfl := some_inj hd1691
                    have z1765 : _ = r1391 := hk1400
                    subst z1765
                    obtain ⟨rfl, z1766⟩ := Prod.mk.inj (some_inj hd1393)
                    obtain ⟨rfl, rfl⟩ := Prod.mk.inj z1766
                    have S1768 : St [] H G1762 (oseg none (ints (List.flatten [])) :: _) := S1763.nilseg 0
                    have S1769 := S1768.keep 1
                    exact ⟨.inr rfl, _, res2 rfl (rv_cell (vs := [.int .i64 0, .slice none 0 0]) rfl Try.isAgg39 Try.sizeOf39 rfl (row_cells (S1763.get (k := 1) rfl))) (rv_tmp rfl), none, 0, rfl, S1769, Sb.nil, all_nil⟩
                  · have hd1770 := bif_f c1760 hd1739
                    refine AX.skip ?_
                    refine AX.seq ?_
                    refine AX.region ?_
                    refine AO.p rfl (p_move rfl) ?_
                    refine AO.p rfl (p_move rfl) ?_
                    obtain ⟨k1771, hd1772⟩ := chk_some hd1770
                    refine AO.p rfl (s_indexAr (q := ((rd (rw_ a0_1 x969.toNat) x1601.toNat).tdiv 14).toNat) Try.underlying65 Try.sizeOf2 rfl rfl k1771 (z1 _)) ?_
                    obtain ⟨G1773, hHG1773, S1774⟩ := S1757.set (k := 4) (i := i1416) rfl (AObj.row false (ints (xs1600.set (((rd (rw_ a0_1 x969.toNat) x1601.toNat).tdiv 14).toNat) ((rd (rw_ a0_1 x969.toNat) x1601.toNat).tmod 14))))
                    refine AO.s (s_store Try.sizeOf2 rfl rfl rfl (S1757.get (k := 4) rfl) (lt_len (ints_len lxs1600) (inR_lt k1771)) ((congrArg (fun l => List.set _ _ (AObj.row false l)) (ints_set _ _ _)).trans hHG1773)) ?_
                    refine AO.nil ?_
                    refine AX.region ?_
                    refine AO.p rfl (p_move rfl) ?_
                    refine AO.p rfl (p_move rfl) ?_
                    obtain ⟨k1775, hd1776⟩ := chk_some hd1772
                    refine AO.p rfl (s_indexAr (q := ((rd (rw_ a0_1 x969.toNat) x1601.toNat).tmod 14).toNat) Try.underlying65 Try.sizeOf2 rfl rfl k1775 (z1 _)) ?_
                    obtain ⟨G1777, hHG1777, S1778⟩ := S1774.set (k := 4) (i := i1416) rfl (AObj.row false (ints ((xs1600.set (((rd (rw_ a0_1 x969.toNat) x1601.toNat).tdiv 14).toNat) ((rd (rw_ a0_1 x969.toNat) x1601.toNat).tmod 14)).set (((rd (rw_ a0_1 x969.toNat) x1601.toNat).tmod 14).toNat) ((rd (rw_ a0_1 x969.toNat) x1601.toNat).tdiv 14))))
                    refine AO.s (s_store Try.sizeOf2 rfl rfl rfl (S1774.get (k := 4) rfl) (lt_len (ints_len (len_set lxs1600)) (inR_lt k1775)) ((congrArg (fun l => List.set _ _ (AObj.row false l)) (ints_set _ _ _)).trans hHG1777)) ?_
                    refine AO.nil ?_
                    refine AX.region ?_
                    refine AO.p rfl (p_move rfl) ?_
                    obtain ⟨k1779, hd1780⟩ := chk_some hd1776
                    refine AO.p rfl (p_addE rfl rfl k1779) ?_
                    refine AO.p rfl (p_assign rfl) ?_
                    refine AO.nil ?_
                    obtain rfl := some_inj hd1780
                    have S1782 := S1778.front 4 rfl
                    have S1783 := S1782.front 4 rfl
                    have S1784 := S1783.front 4 rfl
                    have S1785 := S1784.front 4 rfl
                    have S1786 := S1785.front 4 rfl
                    exact ⟨(((xs1600.set (((rd (rw_ a0_1 x969.toNat) x1601.toNat).tdiv 14).toNat) ((rd (rw_ a0_1 x969.toNat) x1601.toNat).tmod 14)).set (((rd (rw_ a0_1 x969.toNat) x1601.toNat).tmod 14).toNat) ((rd (rw_ a0_1 x969.toNat) x1601.toNat).tdiv 14)), x1601 + 1), hk1699, ((xs1600.set (((rd (rw_ a0_1 x969.toNat) x1601.toNat).tdiv 14).toNat) ((rd (rw_ a0_1 x969.toNat) x1601.toNat).tmod 14)).set (((rd (rw_ a0_1 x969.toNat) x1601.toNat).tmod 14).toNat) ((rd (rw_ a0_1 x969.toNat) x1601.toNat).tdiv 14)), (x1601 + 1), rfl, S1786, (len_set (len_set lxs1600)), Sub.cons' rfl rfl (Sub.cons' rfl rfl (Sub.cons' rfl rfl (Sub.cons' rfl rfl (Sub.cons' rfl rfl (Sub.cons' rfl rfl (Sub.nil _))))))⟩
              · have hd1787 := bif_f c1720 hd1719
                refine AX.skip ?_
                refine AX.region ?_
                refine AO.p rfl (p_move rfl) ?_
                obtain ⟨k1788, hd1789⟩ := chk_some hd1787
                refine AO.p rfl (p_addE rfl rfl k1788) ?_
                refine AO.p rfl (p_assign rfl) ?_
                refine AO.nil ?_
                obtain rfl := some_inj hd1789
                have S1791 := S1700.front 4 rfl
                have S1792 := S1791.front 4 rfl
                have S1793 := S1792.front 4 rfl
                have S1794 := S1793.front 4 rfl
                have S1795 := S1794.front 4 rfl
                exact ⟨(xs1600, x1601 + 1), hk1699, xs1600, (x1601 + 1), rfl, S1795, lxs1600, Sub.cons' rfl rfl (Sub.cons' rfl rfl (Sub.cons' rfl rfl (Sub.cons' rfl rfl (Sub.cons' rfl rfl (Sub.cons' rfl rfl (Sub.nil _))))))⟩
            · have hd1796 := bif_f c1710 hd1705
              refine AX.exit ?_
              obtain rfl := some_inj hd1796
              have S1797 := S1700.front 4 rfl
              have S1798 := S1797.front 4 rfl
              have S1799 := S1798.front 4 rfl
              have S1800 := S1799.front 4 rfl
              have S1801 := S1800.front 4 rfl
              exact ⟨xs1600, hk1699, S1801, lxs1600, Sub.cons' rfl rfl (Sub.cons' rfl rfl (Sub.cons' rfl rfl (Sub.cons' rfl rfl (Sub.cons' rfl rfl (Sub.nil _)))))⟩
        · rintro t' G1803 ⟨xs1688, rfl, S1802, lxs1688, hsub1804⟩
          refine AX.sub hsub1804 ?_
          refine AX.region ?_
          refine AO.p rfl (s_fieldAddr Try.underlying39 rfl Try.sizeOf37 (by decide) rfl rfl) ?_
          refine AO.c rfl (s_load Try.isAgg37 rfl (row_cell (S1802.get (k := 2) rfl) rfl)) ?_
          refine AO.c rfl (s_loadN (vs := ints xs1688) Try.isAgg65 Try.sizeOf65 rfl (ints_len lxs1688) (row_cells (S1802.get (k := 4) rfl))) ?_
          obtain ⟨G1805, i1806, hii1806, hHG1805, S1807⟩ := S1802.new (AObj.row false (ints [xs1688].flatten))
          refine AO.c rfl (s_build1 (i := i1806) (r := xs1688) (zr := List.replicate 14 0) Try.underlying37 Try.sizeOf65 Try.zeroValue65 rfl rfl (by decide) (by decide) rfl lxs1688 hii1806 hHG1805) ?_
          obtain ⟨k1809, hd1810⟩ := chk_some hd1691
          obtain ⟨p1811, c1812, G1813, haG1813, S1814, Bp1811⟩ := S1807.app (k := 4) rfl Bo965 (ints [xs1688].flatten) 1 (flat_len1 (all_one lxs1688) rfl)
          have S1815 := S1814.cellsEq (k := 4) (us' := ints (rs968 ++ [xs1688]).flatten) (intsf_app _ _) rfl
          have BS1815 : Sb p1811 ((rs968 ++ [xs1688]).length) c1812 14 := (show rs968.length + 1 = (rs968 ++ [xs1688]).length from len_app (a := rs968) (b := [xs1688]) rfl rfl) ▸ Bp1811
          have S1816 := S1815.drop 0 rfl
          refine AO.c rfl (s_app (by_ := 112) (us := ints rs968.flatten) (vs := ints [xs1688].flatten) Try.underlying37 Try.underlying37 Try.typeInfo65 Try.sizeOf65 Try.zeroValue65 rfl rfl rfl rfl rfl rfl rfl (S1807.buf (k := 4) rfl Bo965 (flat_len1 ars968 rfl)) (S1807.oview (k := 0) rfl (Sb.lit (n := 1) (by decide)) (flat_len1 (all_one lxs1688) rfl)) (flat_len1 (all_one lxs1688) rfl) ints_one k1809 haG1813 (show rs968.length + 1 = (rs968 ++ [xs1688]).length from len_app (a := rs968) (b := [xs1688]) rfl rfl)) ?_
          refine AO.p rfl (s_fieldAddr Try.underlying39 rfl Try.sizeOf37 (by decide) rfl rfl) ?_
          obtain ⟨G1817, hHG1817, S1818⟩ := S1816.set (k := 2) (i := i115) rfl (AObj.row false ([.int .i64 (a0_0 + 1), .slice p1811 ((rs968 ++ [xs1688]).length) c1812]))
          refine AO.s (s_store Try.sizeOf37 rfl rfl rfl (S1816.get (k := 2) rfl) (Nat.le_of_ble_eq_true rfl) hHG1817) ?_
          refine AO.nil ?_
          refine AX.region ?_
          refine AO.p rfl (p_move rfl) ?_
          obtain ⟨k1819, hd1820⟩ := chk_some hd1810
          refine AO.p rfl (p_addE rfl rfl k1819) ?_
          refine AO.p rfl (p_assign rfl) ?_
          refine AO.nil ?_
          obtain rfl := some_inj hd1820
          have S1822 := S1818.front 3 rfl
          have S1823 := S1822.front 3 rfl
          have S1824 := S1823.front 3 rfl
          have S1825 := S1824.front 3 rfl
          have S1826 := S1825.keep 4
          exact ⟨((rs968 ++ [xs1688]), x969 + 1), hk1400, (rs968 ++ [xs1688]), (x969 + 1), p1811, c1812, rfl, S1826, (all_app ars968 (all_one lxs1688)), BS1815, Sub.cons' rfl rfl (Sub.cons' rfl rfl (Sub.cons' rfl rfl (Sub.cons' rfl rfl (Sub.nil _))))⟩
      · have hd1828 := bif_f c1405 ho1399
        refine AX.exit ?_
        obtain rfl := some_inj hd1828
        have S1829 := S1401.front 3 rfl
        have S1830 := S1829.front 3 rfl
        have S1831 := S1830.front 3 rfl
        have S1832 := S1831.keep 3
        exact ⟨rs968, p966, c967, hk1400, S1832, ars968, Bo965, Sub.cons' rfl rfl (Sub.cons' rfl rfl (Sub.nil _))⟩
  · rintro t' G1834 ⟨rs1390, p1388, c1389, rfl, S1833, ars1390, Bo1387, hsub1835⟩
    refine AX.sub hsub1835 ?_
    refine AX.seq ?_
    refine AX.region ?_
    refine AO.c rfl (s_loadN (vs := [.int .i64 (a0_0 + 1), .slice p1388 rs1390.length c1389]) Try.isAgg39 Try.sizeOf39 rfl rfl (row_cells (S1833.get (k := 1) rfl))) ?_
    obtain ⟨G1836, hHG1836, S1837⟩ := S1833.set (k := 0) (i := i105) rfl (AObj.row false ([.int .i64 (a0_0 + 1), .slice p1388 rs1390.length c1389]))
    refine AO.s (s_storeAll (vs := [.int .i64 (a0_0 + 1), .slice p1388 rs1390.length c1389]) Try.sizeOf39 rfl rfl (ones_list rfl) (S1833.get (k := 0) rfl) rfl rfl hHG1836) ?_
    refine AO.p rfl (p_assign rfl) ?_
    refine AO.nil ?_
    refine AX.ret ?_
    obtain ⟨rfl, z1838⟩ := Prod.mk.inj (some_inj hd1393)
    obtain ⟨rfl, rfl⟩ := Prod.mk.inj z1838
    have S1840 := S1837.front 2 rfl
    have S1841 := S1840.keep 1
    exact ⟨.inr rfl, _, res2 rfl (rv_cell (vs := [.int .i64 (a0_0 + 1), .slice p1388 rs1390.length c1389]) rfl Try.isAgg39 Try.sizeOf39 rfl (row_cells (S1837.get (k := 0) rfl))) (rv_tmp rfl), p1388, c1389, rfl, S1841, Bo1387, ars1390⟩

set_option maxHeartbeats 4000000 in
theorem W_spec_RowsOf (fu : Nat) (H : AHeap) (a0_0 : Int) (p_a0_1 : Option Addr) (c_a0_1 : Nat) (T_a0_1 : Tb) (a0_1 : List (List Int)) (t_a0_1 : trows T_a0_1 = a0_1) (v_a0_1 : Vw H p_a0_1 a0_1.length c_a0_1 (tcells T_a0_1)) (w_a0_1 : TVw H T_a0_1) (r0 : Int) (r1 : List (List Int)) (r2 : Int) (hd : D_spec_RowsOf fu a0_0 a0_1 = some (r0, r1, r2)) : ∃ v G', ACall Try.prog 42 [.agg [.int .i64 a0_0, .slice p_a0_1 a0_1.length c_a0_1].toArray] H v G' ∧ ∃ (p_r1 : Option Addr) (c_r1 : Nat), (v = .tuple #[.agg [.int .i64 r0, .slice p_r1 r1.length c_r1].toArray, .int .i64 r2]) ∧ St [] H G' [oseg p_r1 (ints r1.flatten)] ∧ Sb p_r1 r1.length c_r1 14 ∧ All 14 r1 := by
  refine ACall.bodyX (args := [.agg [.int .i64 a0_0, .slice p_a0_1 a0_1.length c_a0_1].toArray]) (N := 19) [(0, .agg [.int .i64 a0_0, .slice p_a0_1 a0_1.length c_a0_1].toArray)] (fun v G' => ∃ (p_r1 : Option Addr) (c_r1 : Nat), (v = .tuple #[.agg [.int .i64 r0, .slice p_r1 r1.length c_r1].toArray, .int .i64 r2]) ∧ St [] H G' [oseg p_r1 (ints r1.flatten)] ∧ Sb p_r1 r1.length c_r1 14 ∧ All 14 r1) Try.func42 rfl rfl rfl rfl ?_
  unfold D_spec_RowsOf at hd
  have S0 : St [] H H [] := St.nil H
  refine AX.seq ?_
  refine AX.region ?_
  obtain ⟨G100, i101, hii101, hHG100, S102⟩ := S0.new (AObj.row false ([.int .i64 a0_0, .slice p_a0_1 a0_1.length c_a0_1]))
  refine AO.c rfl (s_box (i := i101) (cs := [.int .i64 a0_0, .slice p_a0_1 a0_1.length c_a0_1]) rfl hii101 rfl hHG100) ?_
  obtain ⟨G104, i105, hii105, hHG104, S106⟩ := S102.new (AObj.row false ([.int .i64 0, .slice none 0 0]))
  refine AO.c rfl (s_alloc (i := i105) (cs := [.int .i64 0, .slice none 0 0]) Try.zeroValue39 rfl rfl hii105 hHG104) ?_
  refine AO.p rfl (p_assign rfl) ?_
  refine AO.nil ?_
  refine AX.seq ?_
  refine AX.seq ?_
  refine AX.region ?_
  refine AO.c rfl (s_loadN (vs := [.int .i64 a0_0, .slice p_a0_1 a0_1.length c_a0_1]) Try.isAgg26 Try.sizeOf26 rfl rfl (row_cells (S106.get (k := 1) rfl))) ?_
  obtain ⟨b108, h109, hd110⟩ := bnd_some hd
  refine AO.c rfl (o_call (vs := [.agg [.int .i64 a0_0, .slice p_a0_1 a0_1.length c_a0_1].toArray]) rfl Try.call58 (W_spec_l04Is fu G104 a0_0 p_a0_1 c_a0_1 T_a0_1 a0_1 t_a0_1 (S106.view v_a0_1) (S106.tview w_a0_1) b108 h109)) ?_
  refine AO.p rfl (p_not rfl) ?_
  refine AO.nil ?_
  refine AX.cond rfl (fun c112 => ?_) (fun c112 => ?_)
  · have hd113 := bif_t c112 hd110
    refine AX.seq ?_
    refine AX.region ?_
    refine AO.p rfl (p_build2 (vs := []) (cs := [.int .i64 0, .slice none 0 0]) Try.underlying39 rfl rfl rfl Try.sizeOf2 Try.sizeOf37 Try.zeroValue39 rfl rfl rfl rfl rfl) ?_
    obtain ⟨G114, hHG114, S115⟩ := S106.set (k := 0) (i := i105) rfl (AObj.row false ([.int .i64 0, .slice none 0 0]))
    refine AO.s (s_storeAll (vs := [.int .i64 0, .slice none 0 0]) Try.sizeOf39 rfl rfl (ones_list rfl) (S106.get (k := 0) rfl) rfl rfl hHG114) ?_
    refine AO.p rfl (p_assign rfl) ?_
    refine AO.nil ?_
    refine AX.ret ?_
    obtain ⟨rfl, z116⟩ := Prod.mk.inj (some_inj hd113)
    obtain ⟨rfl, rfl⟩ := Prod.mk.inj z116
    have S118 : St [] H G114 (oseg none (ints (List.flatten [])) :: _) := S115.nilseg 0
    have S119 := S118.keep 1
    exact ⟨.inr rfl, _, res2 rfl (rv_cell (vs := [.int .i64 0, .slice none 0 0]) rfl Try.isAgg39 Try.sizeOf39 rfl (row_cells (S115.get (k := 0) rfl))) (rv_tmp rfl), none, 0, rfl, S119, Sb.nil, all_nil⟩
  · have hd120 := bif_f c112 hd110
    refine AX.skip ?_
    refine AX.seq ?_
    refine AX.region ?_
    refine AO.c rfl (s_loadN (vs := [.int .i64 a0_0, .slice p_a0_1 a0_1.length c_a0_1]) Try.isAgg26 Try.sizeOf26 rfl rfl (row_cells (S106.get (k := 1) rfl))) ?_
    obtain ⟨⟨x121, rs122, b123⟩, h124, hd125⟩ := bnd_some hd120
    obtain ⟨_, G132, hc131, p126, c127, rfl, S133, B129, a130⟩ := W_spec_l04Rows fu G104 a0_0 p_a0_1 c_a0_1 T_a0_1 a0_1 t_a0_1 (S106.view v_a0_1) (S106.tview w_a0_1) x121 rs122 b123 h124
    have S134 := S106.call S133
    refine AO.c rfl (o_call (vs := [.agg [.int .i64 a0_0, .slice p_a0_1 a0_1.length c_a0_1].toArray]) rfl Try.call94 hc131) ?_
    refine AO.p rfl (p_move rfl) ?_
    refine AO.p rfl (p_extract rfl rfl) ?_
    refine AO.p rfl (p_extract rfl rfl) ?_
    obtain ⟨G135, i136, hii136, hHG135, S137⟩ := S134.new (AObj.row false ([.int .i64 0, .slice none 0 0]))
    refine AO.c rfl (s_alloc (i := i136) (cs := [.int .i64 0, .slice none 0 0]) Try.zeroValue39 rfl rfl hii136 hHG135) ?_
    obtain ⟨G139, hHG139, S140⟩ := S137.set (k := 0) (i := i136) rfl (AObj.row false ([.int .i64 x121, .slice p126 rs122.length c127]))
    refine AO.s (s_storeAll (vs := [.int .i64 x121, .slice p126 rs122.length c127]) Try.sizeOf39 rfl rfl (ones_list rfl) (S137.get (k := 0) rfl) rfl rfl hHG139) ?_
    refine AO.p rfl (p_assign rfl) ?_
    refine AO.nil ?_
    refine AX.seq ?_
    refine AX.seq ?_
    refine AX.region ?_
    refine AO.p rfl (p_move rfl) ?_
    refine AO.p rfl (p_not rfl) ?_
    refine AO.nil ?_
    refine AX.cond rfl (fun c141 => ?_) (fun c141 => ?_)
    · have hd142 := bif_t c141 hd125
      refine AX.seq ?_
      refine AX.region ?_
      refine AO.p rfl (p_build2 (vs := []) (cs := [.int .i64 0, .slice none 0 0]) Try.underlying39 rfl rfl rfl Try.sizeOf2 Try.sizeOf37 Try.zeroValue39 rfl rfl rfl rfl rfl) ?_
      obtain ⟨G143, hHG143, S144⟩ := S140.set (k := 2) (i := i105) rfl (AObj.row false ([.int .i64 0, .slice none 0 0]))
      refine AO.s (s_storeAll (vs := [.int .i64 0, .slice none 0 0]) Try.sizeOf39 rfl rfl (ones_list rfl) (S140.get (k := 2) rfl) rfl rfl hHG143) ?_
      refine AO.p rfl (p_assign rfl) ?_
      refine AO.nil ?_
      refine AX.ret ?_
      obtain ⟨rfl, z145⟩ := Prod.mk.inj (some_inj hd142)
      obtain ⟨rfl, rfl⟩ := Prod.mk.inj z145
      have S147 : St [] H G143 (oseg none (ints (List.flatten [])) :: _) := S144.nilseg 0
      have S148 := S147.keep 1
      exact ⟨.inr rfl, _, res2 rfl (rv_cell (vs := [.int .i64 0, .slice none 0 0]) rfl Try.isAgg39 Try.sizeOf39 rfl (row_cells (S144.get (k := 2) rfl))) (rv_tmp rfl), none, 0, rfl, S148, Sb.nil, all_nil⟩
    · have hd149 := bif_f c141 hd125
      refine AX.skip ?_
      refine AX.seq ?_
      refine AX.region ?_
      refine AO.c rfl (s_loadN (vs := [.int .i64 x121, .slice p126 rs122.length c127]) Try.isAgg39 Try.sizeOf39 rfl rfl (row_cells (S140.get (k := 0) rfl))) ?_
      obtain ⟨G150, hHG150, S151⟩ := S140.set (k := 2) (i := i105) rfl (AObj.row false ([.int .i64 x121, .slice p126 rs122.length c127]))
      refine AO.s (s_storeAll (vs := [.int .i64 x121, .slice p126 rs122.length c127]) Try.sizeOf39 rfl rfl (ones_list rfl) (S140.get (k := 2) rfl) rfl rfl hHG150) ?_
      refine AO.p rfl (p_assign rfl) ?_
      refine AO.nil ?_
      refine AX.ret ?_
      obtain ⟨rfl, z152⟩ := Prod.mk.inj (some_inj hd149)
      obtain ⟨rfl, rfl⟩ := Prod.mk.inj z152
      have S154 := S151.front 1 rfl
      have S155 := S154.keep 1
      exact ⟨.inr rfl, _, res2 rfl (rv_cell (vs := [.int .i64 x121, .slice p126 rs122.length c127]) rfl Try.isAgg39 Try.sizeOf39 rfl (row_cells (S151.get (k := 2) rfl))) (rv_tmp rfl), p126, c127, rfl, S155, B129, a130⟩

set_option maxHeartbeats 4000000 in
theorem W_impl_Square_rows (fu : Nat) (H : AHeap) (a0_0 : Int) (p_a0_1 : Option Addr) (c_a0_1 : Nat) (T_a0_1 : Tb) (a0_1 : List (List Int)) (t_a0_1 : trows T_a0_1 = a0_1) (v_a0_1 : Vw H p_a0_1 a0_1.length c_a0_1 (tcells T_a0_1)) (w_a0_1 : TVw H T_a0_1) (r0 : Int) (r1 : List (List Int)) (r2 : Int) (hd : D_impl_Square_rows fu a0_0 a0_1 = some (r0, r1, r2)) : ∃ v G', ACall Try.prog 95 [.agg [.int .i64 a0_0, .slice p_a0_1 a0_1.length c_a0_1].toArray] H v G' ∧ ∃ (p_r1 : Option Addr) (c_r1 : Nat), (v = .tuple #[.agg [.int .i64 r0, .slice p_r1 r1.length c_r1].toArray, .int .i64 r2]) ∧ St [] H G' [oseg p_r1 (ints r1.flatten)] ∧ Sb p_r1 r1.length c_r1 14 ∧ All 14 r1 := by
  refine ACall.bodyX (args := [.agg [.int .i64 a0_0, .slice p_a0_1 a0_1.length c_a0_1].toArray]) (N := 59) [(0, .agg [.int .i64 a0_0, .slice p_a0_1 a0_1.length c_a0_1].toArray)] (fun v G' => ∃ (p_r1 : Option Addr) (c_r1 : Nat), (v = .tuple #[.agg [.int .i64 r0, .slice p_r1 r1.length c_r1].toArray, .int .i64 r2]) ∧ St [] H G' [oseg p_r1 (ints r1.flatten)] ∧ Sb p_r1 r1.length c_r1 14 ∧ All 14 r1) Try.func95 rfl rfl rfl rfl ?_
  unfold D_impl_Square_rows at hd
  have S0 : St [] H H [] := St.nil H
  refine AX.seq ?_
  refine AX.region ?_
  obtain ⟨G100, i101, hii101, hHG100, S102⟩ := S0.new (AObj.row false ([.int .i64 a0_0, .slice p_a0_1 a0_1.length c_a0_1]))
  refine AO.c rfl (s_box (i := i101) (cs := [.int .i64 a0_0, .slice p_a0_1 a0_1.length c_a0_1]) rfl hii101 rfl hHG100) ?_
  obtain ⟨G104, i105, hii105, hHG104, S106⟩ := S102.new (AObj.row false ([.int .i64 0, .slice none 0 0]))
  refine AO.c rfl (s_alloc (i := i105) (cs := [.int .i64 0, .slice none 0 0]) Try.zeroValue39 rfl rfl hii105 hHG104) ?_
  refine AO.p rfl (p_assign rfl) ?_
  refine AO.nil ?_
  refine AX.seq ?_
  refine AX.region ?_
  refine AO.p rfl (s_fieldAddr Try.underlying26 rfl Try.sizeOf2 (by decide) rfl rfl) ?_
  refine AO.c rfl (s_load Try.isAgg2 rfl (row_cell (S106.get (k := 1) rfl) rfl)) ?_
  obtain ⟨k108, hd109⟩ := chk_some hd
  refine AO.p rfl (p_addE rfl rfl k108) ?_
  refine AO.p rfl (p_build2 (vs := [(0, .int .i64 (a0_0 + 1))]) (cs := [.int .i64 (a0_0 + 1), .slice none 0 0]) Try.underlying39 rfl rfl rfl Try.sizeOf2 Try.sizeOf37 Try.zeroValue39 rfl rfl rfl rfl rfl) ?_
  obtain ⟨G110, i111, hii111, hHG110, S112⟩ := S106.new (AObj.row false ([.int .i64 0, .slice none 0 0]))
  refine AO.c rfl (s_alloc (i := i111) (cs := [.int .i64 0, .slice none 0 0]) Try.zeroValue39 rfl rfl hii111 hHG110) ?_
  obtain ⟨G114, hHG114, S115⟩ := S112.set (k := 0) (i := i111) rfl (AObj.row false ([.int .i64 (a0_0 + 1), .slice none 0 0]))
  refine AO.s (s_storeAll (vs := [.int .i64 (a0_0 + 1), .slice none 0 0]) Try.sizeOf39 rfl rfl (ones_list rfl) (S112.get (k := 0) rfl) rfl rfl hHG114) ?_
  refine AO.nil ?_
  refine AX.seq ?_
  refine AX.seq ?_
  refine AX.region ?_
  refine AO.p rfl (s_fieldAddr Try.underlying26 rfl Try.sizeOf22 (by decide) rfl rfl) ?_
  refine AO.c rfl (s_load Try.isAgg22 rfl (row_cell (S115.get (k := 2) rfl) rfl)) ?_
  refine AO.p rfl (p_len_slice rfl Try.underlying22) ?_
  refine AO.p rfl (p_move rfl) ?_
  refine AO.nil ?_
  obtain ⟨r906, hl907, hd908⟩ := bnd_some hd109
  refine AX.cutQ (fun t' H' => ∃ (rs905 : List (List Int)) (p903 : Option Addr) (c904 : Nat), .inl rs905 = r906 ∧ St [] H H' [[(i105, AObj.row false ([.int .i64 0, .slice none 0 0]))], [(i111, AObj.row false ([.int .i64 (a0_0 + 1), .slice p903 rs905.length c904]))], oseg p903 (ints rs905.flatten)] ∧ All 14 rs905 ∧ Sb p903 (rs905.length) c904 14 ∧ Am.Sub [(2, .pointer (some ⟨i105, 0, none⟩)), (4, .pointer (some ⟨i111, 0, none⟩))] t') ?_ ?_
  · refine AX.block ?_
    refine AX.loopF (fun s' t' H' => ∃ (rs640 : List (List Int)) (x641 : Int) (p638 : Option Addr) (c639 : Nat), (rs640, x641) = s' ∧ St [] H H' [[(i105, AObj.row false ([.int .i64 0, .slice none 0 0]))], [(i111, AObj.row false ([.int .i64 (a0_0 + 1), .slice p638 rs640.length c639]))], oseg p638 (ints rs640.flatten)] ∧ All 14 rs640 ∧ Sb p638 (rs640.length) c639 14 ∧ Am.Sub [(2, .pointer (some ⟨i105, 0, none⟩)), (4, .pointer (some ⟨i111, 0, none⟩)), (17, .slice p_a0_1 a0_1.length c_a0_1), (18, .int .i64 ((a0_1.length : Nat) : Int)), (19, .int .i64 x641)] t') hl907 ?_ ?_
    · skip
      have S909 : St [] H G114 (oseg none (ints (List.flatten [])) :: _) := S115.nilseg 0
      have S910 := S909.front 1 rfl
      have S911 := S910.front 2 rfl
      have S912 := S911.keep 3
      exact ⟨[], 0, none, 0, rfl, S912, all_nil, Sb.nil, Sub.cons' rfl rfl (Sub.cons' rfl rfl (Sub.cons' rfl rfl (Sub.cons' rfl rfl (Sub.cons' rfl rfl (Sub.nil _)))))⟩
    · rintro n913 _ t' G917 ⟨rs640, x641, p638, c639, rfl, S916, ars640, Bo637, hsub918⟩ o919 ho914 hk915
      refine AX.sub hsub918 ?_
      unfold D_impl_Square_rows_s0 at ho914
      refine AX.seq ?_
      refine AX.region ?_
      refine AO.p rfl (p_lss rfl rfl) ?_
      refine AO.nil ?_
      refine AX.seq ?_
      refine AX.cond rfl (fun c920 => ?_) (fun c920 => ?_)
      · have hd921 := bif_t c920 ho914
        refine AX.skip ?_
        refine AX.seq ?_
        refine AX.block ?_
        refine AX.seq ?_
        refine AX.region ?_
        obtain ⟨k922, hd923⟩ := chk_some hd921
        obtain ⟨p924, c925, e926, f927⟩ := tget t_a0_1 (lt_len rfl (inR_lt k922))
        refine AO.p rfl (s_indexV (q := off p_a0_1 + x641.toNat) Try.underlying22 Try.sizeOf68 rfl ((S916.view v_a0_1).p f927) rfl k922 (o1 _ _)) ?_
        refine AO.c rfl (s_load Try.isAgg68 rfl ((S916.view v_a0_1).get _ _ f927)) ?_
        refine AO.p rfl (p_assign rfl) ?_
        refine AO.nil ?_
        refine AX.seq ?_
        refine AX.region ?_
        obtain ⟨G928, i929, hii929, hHG928, S930⟩ := S916.new (AObj.row false (tcells []))
        have S930t := S930.nilseg 1
        refine AO.c rfl (s_build0 (i := i929) Try.underlying22 Try.sizeOf68 hii929 hHG928) ?_
        refine AO.p rfl (p_assign rfl) ?_
        refine AO.nil ?_
        refine AX.seq ?_
        refine AX.seq ?_
        refine AX.region ?_
        refine AO.p rfl (p_move rfl) ?_
        refine AO.p rfl (p_len_slice rfl Try.underlying68) ?_
        refine AO.p rfl (p_move rfl) ?_
        refine AO.nil ?_
        obtain ⟨r1070, hl1071, hd1072⟩ := bnd_some hd923
        refine AX.cutQ (fun t' H' => ∃ (rs1068 : List (List Int)) (p1066 : Option Addr) (c1067 : Nat) (T1069 : Tb), rs1068 = r1070 ∧ St [] H H' [[(i105, AObj.row false ([.int .i64 0, .slice none 0 0]))], [(i111, AObj.row false ([.int .i64 (a0_0 + 1), .slice p638 rs640.length c639]))], oseg p638 (ints rs640.flatten), oseg p1066 (tcells T1069), tseg T1069] ∧ trows T1069 = rs1068 ∧ TSb T1069 ∧ Sb p1066 (rs1068.length) c1067 1 ∧ Am.Sub [(2, .pointer (some ⟨i105, 0, none⟩)), (4, .pointer (some ⟨i111, 0, none⟩)), (7, .slice p1066 rs1068.length c1067), (17, .slice p_a0_1 a0_1.length c_a0_1), (18, .int .i64 ((a0_1.length : Nat) : Int)), (19, .int .i64 x641)] t') ?_ ?_
        · refine AX.block ?_
          refine AX.loopF (fun s' t' H' => ∃ (rs1023 : List (List Int)) (x1025 : Int) (p1021 : Option Addr) (c1022 : Nat) (T1024 : Tb), (rs1023, x1025) = s' ∧ St [] H H' [[(i105, AObj.row false ([.int .i64 0, .slice none 0 0]))], [(i111, AObj.row false ([.int .i64 (a0_0 + 1), .slice p638 rs640.length c639]))], oseg p638 (ints rs640.flatten), oseg p1021 (tcells T1024), tseg T1024] ∧ trows T1024 = rs1023 ∧ TSb T1024 ∧ Sb p1021 (rs1023.length) c1022 1 ∧ Am.Sub [(2, .pointer (some ⟨i105, 0, none⟩)), (4, .pointer (some ⟨i111, 0, none⟩)), (7, .slice p1021 rs1023.length c1022), (17, .slice p_a0_1 a0_1.length c_a0_1), (18, .int .i64 ((a0_1.length : Nat) : Int)), (19, .int .i64 x641), (24, .slice p924 ((rw_ a0_1 x641.toNat).length) c925), (25, .int .i64 (((rw_ a0_1 x641.toNat).length : Nat) : Int)), (26, .int .i64 x1025)] t') hl1071 ?_ ?_
          · skip
            have S1073 := S930t.front 1 rfl
            have S1074 := S1073.front 1 rfl
            have S1075 := S1074.front 4 rfl
            have S1076 := S1075.front 4 rfl
            have S1077 := S1076.front 4 rfl
            exact ⟨[], 0, (some (Addr.mk i929 0 none)), 0, [], rfl, S1077, rfl, TSb.nil, (Sb.lit (n := 0) (by decide)), Sub.cons' rfl rfl (Sub.cons' rfl rfl (Sub.cons' rfl rfl (Sub.cons' rfl rfl (Sub.cons' rfl rfl (Sub.cons' rfl rfl (Sub.cons' rfl rfl (Sub.cons' rfl rfl (Sub.cons' rfl rfl (Sub.nil _)))))))))⟩
          · rintro n1078 _ t' G1082 ⟨rs1023, x1025, p1021, c1022, T1024, rfl, S1081, tT1024, sT1024, Bo1020, hsub1083⟩ o1084 ho1079 hk1080
            refine AX.sub hsub1083 ?_
            unfold D_impl_Square_rows_s1 at ho1079
            refine AX.seq ?_
            refine AX.region ?_
            refine AO.p rfl (p_lss rfl rfl) ?_
            refine AO.nil ?_
            refine AX.seq ?_
            refine AX.cond rfl (fun c1085 => ?_) (fun c1085 => ?_)
            · have hd1086 := bif_t c1085 ho1079
              refine AX.skip ?_
              refine AX.seq ?_
              refine AX.block ?_
              refine AX.seq ?_
              refine AX.region ?_
              obtain ⟨k1087, hd1088⟩ := chk_some hd1086
              refine AO.p rfl (s_indexV (q := off p924 + x1025.toNat) Try.underlying68 Try.sizeOf2 rfl ((TVw.at (S1081.tview w_a0_1) e926).p (ints_get (lt_len rfl (inR_lt k1087)))) rfl k1087 (o1 _ _)) ?_
              refine AO.c rfl (s_load Try.isAgg2 rfl ((TVw.at (S1081.tview w_a0_1) e926).get _ _ (ints_get (lt_len rfl (inR_lt k1087))))) ?_
              refine AO.p rfl (p_assign rfl) ?_
              refine AO.nil ?_
              refine AX.seq ?_
              refine AX.region ?_
              refine AO.p rfl (p_move rfl) ?_
              refine AO.p rfl (p_geq rfl rfl) ?_
              refine AO.nil ?_
              refine AX.cond rfl (fun c1089 => ?_) (fun c1089 => ?_)
              · have hd1090 := bif_t c1089 hd1088
                refine AX.region ?_
                refine AO.p rfl (p_move rfl) ?_
                refine AO.p rfl (p_move rfl) ?_
                obtain ⟨k1091, hd1092⟩ := chk_some hd1090
                refine AO.p rfl (p_quoE rfl rfl k1091) ?_
                refine AO.p rfl (p_move rfl) ?_
                refine AO.p rfl (p_remE rfl rfl (by decide)) ?_
                obtain ⟨G1093, i1094, hii1094, hHG1093, S1095⟩ := S1081.new (AObj.row false (ints [(rd (rw_ a0_1 x641.toNat) x1025.toNat).tdiv 14, (rd (rw_ a0_1 x641.toNat) x1025.toNat).tmod 14]))
                refine AO.c rfl (s_buildInts (i := i1094) (vs := [(0, .int .i64 ((rd (rw_ a0_1 x641.toNat) x1025.toNat).tdiv 14)), (1, .int .i64 ((rd (rw_ a0_1 x641.toNat) x1025.toNat).tmod 14))]) (xs := [(rd (rw_ a0_1 x641.toNat) x1025.toNat).tdiv 14, (rd (rw_ a0_1 x641.toNat) x1025.toNat).tmod 14]) Try.underlying68 Try.sizeOf2 Try.zeroValue2 rfl rfl (by decide) rfl rfl hii1094 hHG1093) ?_
                obtain ⟨G1097, i1098, hii1098, hHG1097, S1099⟩ := S1095.new (AObj.row false (tcells ([((some (Addr.mk i1094 0 none)), 2, [(rd (rw_ a0_1 x641.toNat) x1025.toNat).tdiv 14, (rd (rw_ a0_1 x641.toNat) x1025.toNat).tmod 14])])))
                have S1101 := (S1099.front 1 rfl).tone (some (Addr.mk i1094 0 none)) 2 [(rd (rw_ a0_1 x641.toNat) x1025.toNat).tdiv 14, (rd (rw_ a0_1 x641.toNat) x1025.toNat).tmod 14] rfl
                refine AO.c rfl (s_buildT1 (i := i1098) (X := [((some (Addr.mk i1094 0 none)), 2, [(rd (rw_ a0_1 x641.toNat) x1025.toNat).tdiv 14, (rd (rw_ a0_1 x641.toNat) x1025.toNat).tmod 14])]) (n := 2) rfl Try.underlying22 Try.sizeOf68 Try.zeroValue68 rfl rfl hii1098 hHG1097) ?_
                obtain ⟨k1102, hd1103⟩ := chk_some hd1092
                obtain ⟨p1104, c1105, G1106, haG1106, S1107, Bp1104⟩ := S1101.app (k := 5) rfl Bo1020 (tcells ([((some (Addr.mk i1094 0 none)), 2, [(rd (rw_ a0_1 x641.toNat) x1025.toNat).tdiv 14, (rd (rw_ a0_1 x641.toNat) x1025.toNat).tmod 14])])) 1 (tc_len1 rfl rfl)
                have S1108 := S1107.cellsEq (k := 5) (us' := tcells (T1024 ++ [((some (Addr.mk i1094 0 none)), 2, [(rd (rw_ a0_1 x641.toNat) x1025.toNat).tdiv 14, (rd (rw_ a0_1 x641.toNat) x1025.toNat).tmod 14])])) (tcells_app _ _).symm rfl
                have BS1108 : Sb p1104 ((rs1023 ++ [[(rd (rw_ a0_1 x641.toNat) x1025.toNat).tdiv 14, (rd (rw_ a0_1 x641.toNat) x1025.toNat).tmod 14]]).length) c1105 1 := (show rs1023.length + 1 = (rs1023 ++ [[(rd (rw_ a0_1 x641.toNat) x1025.toNat).tdiv 14, (rd (rw_ a0_1 x641.toNat) x1025.toNat).tmod 14]]).length from len_app (a := rs1023) (b := [[(rd (rw_ a0_1 x641.toNat) x1025.toNat).tdiv 14, (rd (rw_ a0_1 x641.toNat) x1025.toNat).tmod 14]]) rfl rfl) ▸ Bp1104
                have S1109 := S1108.front 0 rfl
                have S1110 := (S1109.front 6 rfl).tmerge
                have S1111 := S1110.drop 1 rfl
                refine AO.c rfl (s_app (by_ := 24) (us := tcells T1024) (vs := tcells ([((some (Addr.mk i1094 0 none)), 2, [(rd (rw_ a0_1 x641.toNat) x1025.toNat).tdiv 14, (rd (rw_ a0_1 x641.toNat) x1025.toNat).tmod 14])])) Try.underlying22 Try.underlying22 Try.typeInfo68 Try.sizeOf68 Try.zeroValue68 rfl rfl rfl rfl rfl rfl rfl (S1101.buf (k := 5) rfl Bo1020 (tc_len1 tT1024 rfl)) (S1101.oview (k := 1) rfl (Sb.lit (n := 1) (by decide)) (tc_len1 rfl rfl)) (tc_len1 rfl rfl) tcells_one k1102 haG1106 (show rs1023.length + 1 = (rs1023 ++ [[(rd (rw_ a0_1 x641.toNat) x1025.toNat).tdiv 14, (rd (rw_ a0_1 x641.toNat) x1025.toNat).tmod 14]]).length from len_app (a := rs1023) (b := [[(rd (rw_ a0_1 x641.toNat) x1025.toNat).tdiv 14, (rd (rw_ a0_1 x641.toNat) x1025.toNat).tmod 14]]) rfl rfl)) ?_
                refine AO.p rfl (p_assign rfl) ?_
                refine AO.nil ?_
                refine AX.region ?_
                obtain ⟨k1112, hd1113⟩ := chk_some hd1103
                refine AO.p rfl (p_addE rfl rfl k1112) ?_
                refine AO.p rfl (p_move rfl) ?_
                refine AO.nil ?_
                obtain rfl := some_inj hd1113
                have S1115 := S1111.front 0 rfl
                have S1116 := S1115.front 4 rfl
                have S1117 := S1116.front 4 rfl
                have S1118 := S1117.front 4 rfl
                have S1119 := S1118.front 4 rfl
                exact ⟨((rs1023 ++ [[(rd (rw_ a0_1 x641.toNat) x1025.toNat).tdiv 14, (rd (rw_ a0_1 x641.toNat) x1025.toNat).tmod 14]]), x1025 + 1), hk1080, (rs1023 ++ [[(rd (rw_ a0_1 x641.toNat) x1025.toNat).tdiv 14, (rd (rw_ a0_1 x641.toNat) x1025.toNat).tmod 14]]), (x1025 + 1), p1104, c1105, (T1024 ++ [((some (Addr.mk i1094 0 none)), 2, [(rd (rw_ a0_1 x641.toNat) x1025.toNat).tdiv 14, (rd (rw_ a0_1 x641.toNat) x1025.toNat).tmod 14])]), rfl, S1119, (trows_apps tT1024 rfl), (TSb.app sT1024 (TSb.one (sb_len rfl (Sb.lit (n := 2) (by decide))))), BS1108, Sub.cons' rfl rfl (Sub.cons' rfl rfl (Sub.cons' rfl rfl (Sub.cons' rfl rfl (Sub.cons' rfl rfl (Sub.cons' rfl rfl (Sub.cons' rfl rfl (Sub.cons' rfl rfl (Sub.cons' rfl rfl (Sub.nil _)))))))))⟩
              · have hd1120 := bif_f c1089 hd1088
                refine AX.skip ?_
                refine AX.region ?_
                obtain ⟨k1121, hd1122⟩ := chk_some hd1120
                refine AO.p rfl (p_addE rfl rfl k1121) ?_
                refine AO.p rfl (p_move rfl) ?_
                refine AO.nil ?_
                obtain rfl := some_inj hd1122
                have S1124 := S1081.front 4 rfl
                have S1125 := S1124.front 4 rfl
                have S1126 := S1125.front 4 rfl
                have S1127 := S1126.front 4 rfl
                have S1128 := S1127.front 4 rfl
                exact ⟨(rs1023, x1025 + 1), hk1080, rs1023, (x1025 + 1), p1021, c1022, T1024, rfl, S1128, tT1024, sT1024, Bo1020, Sub.cons' rfl rfl (Sub.cons' rfl rfl (Sub.cons' rfl rfl (Sub.cons' rfl rfl (Sub.cons' rfl rfl (Sub.cons' rfl rfl (Sub.cons' rfl rfl (Sub.cons' rfl rfl (Sub.cons' rfl rfl (Sub.nil _)))))))))⟩
            · have hd1129 := bif_f c1085 ho1079
              refine AX.exit ?_
              obtain rfl := some_inj hd1129
              have S1130 := S1081.front 4 rfl
              have S1131 := S1130.front 4 rfl
              have S1132 := S1131.front 4 rfl
              have S1133 := S1132.front 4 rfl
              have S1134 := S1133.front 4 rfl
              exact ⟨rs1023, p1021, c1022, T1024, hk1080, S1134, tT1024, sT1024, Bo1020, Sub.cons' rfl rfl (Sub.cons' rfl rfl (Sub.cons' rfl rfl (Sub.cons' rfl rfl (Sub.cons' rfl rfl (Sub.cons' rfl rfl (Sub.nil _))))))⟩
        · rintro t' G1136 ⟨rs1068, p1066, c1067, T1069, rfl, S1135, tT1069, sT1069, Bo1065, hsub1137⟩
          refine AX.sub hsub1137 ?_
          refine AX.seq ?_
          refine AX.region ?_
          refine AO.p rfl (s_fieldAddr Try.underlying39 rfl Try.sizeOf2 (by decide) rfl rfl) ?_
          refine AO.c rfl (s_load Try.isAgg2 rfl (row_cell (S1135.get (k := 1) rfl) rfl)) ?_
          refine AO.p rfl (p_move rfl) ?_
          obtain ⟨⟨xs1138, x1139⟩, h1140, hd1141⟩ := bnd_some hd1072
          obtain ⟨hc1143, l1144⟩ := W_impl_RoundOf fu G1136 (a0_0 + 1) p1066 c1067 T1069 rs1068 tT1069 (S1135.oview (k := 3) rfl Bo1065 (tc_len1 tT1069 rfl)) (S1135.oviewT (k := 4) rfl sT1069) xs1138 x1139 h1140
          refine AO.c rfl (o_call (vs := [.int .i64 (a0_0 + 1), .slice p1066 rs1068.length c1067]) rfl Try.call137 hc1143) ?_
          refine AO.p rfl (p_move rfl) ?_
          refine AO.p rfl (p_extract rfl rfl) ?_
          refine AO.p rfl (p_extract rfl rfl) ?_
          obtain ⟨G1145, i1146, hii1146, hHG1145, S1147⟩ := S1135.new (AObj.row false (ints (List.replicate 14 0)))
          refine AO.c rfl (s_alloc (i := i1146) (cs := ints (List.replicate 14 0)) Try.zeroValue65 rfl rfl hii1146 hHG1145) ?_
          obtain ⟨G1149, hHG1149, S1150⟩ := S1147.set (k := 0) (i := i1146) rfl (AObj.row false (ints xs1138))
          refine AO.s (s_storeAll (vs := ints xs1138) Try.sizeOf65 rfl rfl ints_one (S1147.get (k := 0) rfl) (ints_len l1144) (ints_len len_rep) hHG1149) ?_
          refine AO.p rfl (p_assign rfl) ?_
          refine AO.nil ?_
          refine AX.seq ?_
          refine AX.seq ?_
          refine AX.region ?_
          refine AO.p rfl (p_move rfl) ?_
          refine AO.p rfl (p_neq rfl rfl) ?_
          refine AO.nil ?_
          refine AX.cond rfl (fun c1151 => ?_) (fun c1151 => ?_)
          · have hd1152 := bif_t c1151 hd1141
            refine AX.seq ?_
            refine AX.region ?_
            refine AO.p rfl (p_build2 (vs := []) (cs := [.int .i64 0, .slice none 0 0]) Try.underlying39 rfl rfl rfl Try.sizeOf2 Try.sizeOf37 Try.zeroValue39 rfl rfl rfl rfl rfl) ?_
            obtain ⟨G1153, hHG1153, S1154⟩ := S1150.set (k := 1) (i := i105) rfl (AObj.row false ([.int .i64 0, .slice none 0 0]))
            refine AO.s (s_storeAll (vs := [.int .i64 0, .slice none 0 0]) Try.sizeOf39 rfl rfl (ones_list rfl) (S1150.get (k := 1) rfl) rfl rfl hHG1153) ?_
            refine AO.p rfl (p_assign rfl) ?_
            refine AO.nil ?_
            refine AX.ret ?_
            obtain rfl := some_inj hd1152
            have z1155 : _ = r906 := hk915
            subst z1155
            obtain ⟨rfl, z1156⟩ := Prod.mk.inj (some_inj hd908)
            obtain ⟨rfl, rfl⟩ := Prod.mk.inj z1156
            have S1158 : St [] H G1153 (oseg none (ints (List.flatten [])) :: _) := S1154.nilseg 0
            have S1159 := S1158.keep 1
            exact ⟨.inr rfl, _, res2 rfl (rv_cell (vs := [.int .i64 0, .slice none 0 0]) rfl Try.isAgg39 Try.sizeOf39 rfl (row_cells (S1154.get (k := 1) rfl))) (rv_tmp rfl), none, 0, rfl, S1159, Sb.nil, all_nil⟩
          · have hd1160 := bif_f c1151 hd1141
            refine AX.skip ?_
            refine AX.region ?_
            refine AO.p rfl (s_fieldAddr Try.underlying39 rfl Try.sizeOf37 (by decide) rfl rfl) ?_
            refine AO.c rfl (s_load Try.isAgg37 rfl (row_cell (S1150.get (k := 2) rfl) rfl)) ?_
            refine AO.c rfl (s_loadN (vs := ints xs1138) Try.isAgg65 Try.sizeOf65 rfl (ints_len l1144) (row_cells (S1150.get (k := 0) rfl))) ?_
            obtain ⟨G1161, i1162, hii1162, hHG1161, S1163⟩ := S1150.new (AObj.row false (ints [xs1138].flatten))
            refine AO.c rfl (s_build1 (i := i1162) (r := xs1138) (zr := List.replicate 14 0) Try.underlying37 Try.sizeOf65 Try.zeroValue65 rfl rfl (by decide) (by decide) rfl l1144 hii1162 hHG1161) ?_
            obtain ⟨k1165, hd1166⟩ := chk_some hd1160
            obtain ⟨p1167, c1168, G1169, haG1169, S1170, Bp1167⟩ := S1163.app (k := 4) rfl Bo637 (ints [xs1138].flatten) 1 (flat_len1 (all_one l1144) rfl)
            have S1171 := S1170.cellsEq (k := 4) (us' := ints (rs640 ++ [xs1138]).flatten) (intsf_app _ _) rfl
            have BS1171 : Sb p1167 ((rs640 ++ [xs1138]).length) c1168 14 := (show rs640.length + 1 = (rs640 ++ [xs1138]).length from len_app (a := rs640) (b := [xs1138]) rfl rfl) ▸ Bp1167
            have S1172 := S1171.drop 0 rfl
            refine AO.c rfl (s_app (by_ := 112) (us := ints rs640.flatten) (vs := ints [xs1138].flatten) Try.underlying37 Try.underlying37 Try.typeInfo65 Try.sizeOf65 Try.zeroValue65 rfl rfl rfl rfl rfl rfl rfl (S1163.buf (k := 4) rfl Bo637 (flat_len1 ars640 rfl)) (S1163.oview (k := 0) rfl (Sb.lit (n := 1) (by decide)) (flat_len1 (all_one l1144) rfl)) (flat_len1 (all_one l1144) rfl) ints_one k1165 haG1169 (show rs640.length + 1 = (rs640 ++ [xs1138]).length from len_app (a := rs640) (b := [xs1138]) rfl rfl)) ?_
            refine AO.p rfl (s_fieldAddr Try.underlying39 rfl Try.sizeOf37 (by decide) rfl rfl) ?_
            obtain ⟨G1173, hHG1173, S1174⟩ := S1172.set (k := 2) (i := i111) rfl (AObj.row false ([.int .i64 (a0_0 + 1), .slice p1167 ((rs640 ++ [xs1138]).length) c1168]))
            refine AO.s (s_store Try.sizeOf37 rfl rfl rfl (S1172.get (k := 2) rfl) (Nat.le_of_ble_eq_true rfl) hHG1173) ?_
            refine AO.nil ?_
            refine AX.region ?_
            obtain ⟨k1175, hd1176⟩ := chk_some hd1166
            refine AO.p rfl (p_addE rfl rfl k1175) ?_
            refine AO.p rfl (p_move rfl) ?_
            refine AO.nil ?_
            obtain rfl := some_inj hd1176
            have S1178 := S1174.front 3 rfl
            have S1179 := S1178.front 3 rfl
            have S1180 := S1179.front 3 rfl
            have S1181 := S1180.keep 3
            exact ⟨((rs640 ++ [xs1138]), x641 + 1), hk915, (rs640 ++ [xs1138]), (x641 + 1), p1167, c1168, rfl, S1181, (all_app ars640 (all_one l1144)), BS1171, Sub.cons' rfl rfl (Sub.cons' rfl rfl (Sub.cons' rfl rfl (Sub.cons' rfl rfl (Sub.cons' rfl rfl (Sub.nil _)))))⟩
      · have hd1182 := bif_f c920 ho914
        refine AX.exit ?_
        obtain rfl := some_inj hd1182
        have S1183 := S916.front 2 rfl
        have S1184 := S1183.front 2 rfl
        have S1185 := S1184.front 2 rfl
        exact ⟨rs640, p638, c639, hk915, S1185, ars640, Bo637, Sub.cons' rfl rfl (Sub.cons' rfl rfl (Sub.nil _))⟩
  · rintro t' G1187 ⟨rs905, p903, c904, rfl, S1186, ars905, Bo902, hsub1188⟩
    refine AX.sub hsub1188 ?_
    refine AX.seq ?_
    refine AX.region ?_
    refine AO.c rfl (s_loadN (vs := [.int .i64 (a0_0 + 1), .slice p903 rs905.length c904]) Try.isAgg39 Try.sizeOf39 rfl rfl (row_cells (S1186.get (k := 1) rfl))) ?_
    obtain ⟨G1189, hHG1189, S1190⟩ := S1186.set (k := 0) (i := i105) rfl (AObj.row false ([.int .i64 (a0_0 + 1), .slice p903 rs905.length c904]))
    refine AO.s (s_storeAll (vs := [.int .i64 (a0_0 + 1), .slice p903 rs905.length c904]) Try.sizeOf39 rfl rfl (ones_list rfl) (S1186.get (k := 0) rfl) rfl rfl hHG1189) ?_
    refine AO.p rfl (p_assign rfl) ?_
    refine AO.nil ?_
    refine AX.ret ?_
    obtain ⟨rfl, z1191⟩ := Prod.mk.inj (some_inj hd908)
    obtain ⟨rfl, rfl⟩ := Prod.mk.inj z1191
    have S1193 := S1190.front 2 rfl
    have S1194 := S1193.keep 1
    exact ⟨.inr rfl, _, res2 rfl (rv_cell (vs := [.int .i64 (a0_0 + 1), .slice p903 rs905.length c904]) rfl Try.isAgg39 Try.sizeOf39 rfl (row_cells (S1190.get (k := 0) rfl))) (rv_tmp rfl), p903, c904, rfl, S1194, Bo902, ars905⟩

set_option maxHeartbeats 4000000 in
theorem W_impl_RowsOf (fu : Nat) (H : AHeap) (a0_0 : Int) (p_a0_1 : Option Addr) (c_a0_1 : Nat) (T_a0_1 : Tb) (a0_1 : List (List Int)) (t_a0_1 : trows T_a0_1 = a0_1) (v_a0_1 : Vw H p_a0_1 a0_1.length c_a0_1 (tcells T_a0_1)) (w_a0_1 : TVw H T_a0_1) (r0 : Int) (r1 : List (List Int)) (r2 : Int) (hd : D_impl_RowsOf fu a0_0 a0_1 = some (r0, r1, r2)) : ∃ v G', ACall Try.prog 43 [.agg [.int .i64 a0_0, .slice p_a0_1 a0_1.length c_a0_1].toArray] H v G' ∧ ∃ (p_r1 : Option Addr) (c_r1 : Nat), (v = .tuple #[.agg [.int .i64 r0, .slice p_r1 r1.length c_r1].toArray, .int .i64 r2]) ∧ St [] H G' [oseg p_r1 (ints r1.flatten)] ∧ Sb p_r1 r1.length c_r1 14 ∧ All 14 r1 := by
  refine ACall.bodyX (args := [.agg [.int .i64 a0_0, .slice p_a0_1 a0_1.length c_a0_1].toArray]) (N := 12) [(0, .agg [.int .i64 a0_0, .slice p_a0_1 a0_1.length c_a0_1].toArray)] (fun v G' => ∃ (p_r1 : Option Addr) (c_r1 : Nat), (v = .tuple #[.agg [.int .i64 r0, .slice p_r1 r1.length c_r1].toArray, .int .i64 r2]) ∧ St [] H G' [oseg p_r1 (ints r1.flatten)] ∧ Sb p_r1 r1.length c_r1 14 ∧ All 14 r1) Try.func43 rfl rfl rfl rfl ?_
  unfold D_impl_RowsOf at hd
  have S0 : St [] H H [] := St.nil H
  refine AX.seq ?_
  refine AX.region ?_
  obtain ⟨G100, i101, hii101, hHG100, S102⟩ := S0.new (AObj.row false ([.int .i64 a0_0, .slice p_a0_1 a0_1.length c_a0_1]))
  refine AO.c rfl (s_box (i := i101) (cs := [.int .i64 a0_0, .slice p_a0_1 a0_1.length c_a0_1]) rfl hii101 rfl hHG100) ?_
  obtain ⟨G104, i105, hii105, hHG104, S106⟩ := S102.new (AObj.row false ([.int .i64 0, .slice none 0 0]))
  refine AO.c rfl (s_alloc (i := i105) (cs := [.int .i64 0, .slice none 0 0]) Try.zeroValue39 rfl rfl hii105 hHG104) ?_
  refine AO.p rfl (p_assign rfl) ?_
  refine AO.nil ?_
  refine AX.seq ?_
  refine AX.seq ?_
  refine AX.region ?_
  refine AO.c rfl (s_loadN (vs := [.int .i64 a0_0, .slice p_a0_1 a0_1.length c_a0_1]) Try.isAgg26 Try.sizeOf26 rfl rfl (row_cells (S106.get (k := 1) rfl))) ?_
  obtain ⟨b108, h109, hd110⟩ := bnd_some hd
  refine AO.c rfl (o_call (vs := [.agg [.int .i64 a0_0, .slice p_a0_1 a0_1.length c_a0_1].toArray]) rfl Try.call60 (W_impl_IsSquare fu G104 a0_0 p_a0_1 c_a0_1 T_a0_1 a0_1 t_a0_1 (S106.view v_a0_1) (S106.tview w_a0_1) b108 h109)) ?_
  refine AO.p rfl (p_not rfl) ?_
  refine AO.nil ?_
  refine AX.cond rfl (fun c112 => ?_) (fun c112 => ?_)
  · have hd113 := bif_t c112 hd110
    refine AX.seq ?_
    refine AX.region ?_
    refine AO.p rfl (p_build2 (vs := []) (cs := [.int .i64 0, .slice none 0 0]) Try.underlying39 rfl rfl rfl Try.sizeOf2 Try.sizeOf37 Try.zeroValue39 rfl rfl rfl rfl rfl) ?_
    obtain ⟨G114, hHG114, S115⟩ := S106.set (k := 0) (i := i105) rfl (AObj.row false ([.int .i64 0, .slice none 0 0]))
    refine AO.s (s_storeAll (vs := [.int .i64 0, .slice none 0 0]) Try.sizeOf39 rfl rfl (ones_list rfl) (S106.get (k := 0) rfl) rfl rfl hHG114) ?_
    refine AO.p rfl (p_assign rfl) ?_
    refine AO.nil ?_
    refine AX.ret ?_
    obtain ⟨rfl, z116⟩ := Prod.mk.inj (some_inj hd113)
    obtain ⟨rfl, rfl⟩ := Prod.mk.inj z116
    have S118 : St [] H G114 (oseg none (ints (List.flatten [])) :: _) := S115.nilseg 0
    have S119 := S118.keep 1
    exact ⟨.inr rfl, _, res2 rfl (rv_cell (vs := [.int .i64 0, .slice none 0 0]) rfl Try.isAgg39 Try.sizeOf39 rfl (row_cells (S115.get (k := 0) rfl))) (rv_tmp rfl), none, 0, rfl, S119, Sb.nil, all_nil⟩
  · have hd120 := bif_f c112 hd110
    refine AX.skip ?_
    refine AX.seq ?_
    refine AX.region ?_
    refine AO.c rfl (s_loadN (vs := [.int .i64 a0_0, .slice p_a0_1 a0_1.length c_a0_1]) Try.isAgg26 Try.sizeOf26 rfl rfl (row_cells (S106.get (k := 1) rfl))) ?_
    obtain ⟨⟨x121, rs122, x123⟩, h124, hd125⟩ := bnd_some hd120
    obtain ⟨_, G132, hc131, p126, c127, rfl, S133, B129, a130⟩ := W_impl_Square_rows fu G104 a0_0 p_a0_1 c_a0_1 T_a0_1 a0_1 t_a0_1 (S106.view v_a0_1) (S106.tview w_a0_1) x121 rs122 x123 h124
    have S134 := S106.call S133
    refine AO.c rfl (o_call (vs := [.agg [.int .i64 a0_0, .slice p_a0_1 a0_1.length c_a0_1].toArray]) rfl Try.call95 hc131) ?_
    refine AO.p rfl (p_extract rfl rfl) ?_
    refine AO.p rfl (p_extract rfl rfl) ?_
    obtain ⟨G135, hHG135, S136⟩ := S134.set (k := 1) (i := i105) rfl (AObj.row false ([.int .i64 x121, .slice p126 rs122.length c127]))
    refine AO.s (s_storeAll (vs := [.int .i64 x121, .slice p126 rs122.length c127]) Try.sizeOf39 rfl rfl (ones_list rfl) (S134.get (k := 1) rfl) rfl rfl hHG135) ?_
    refine AO.p rfl (p_assign rfl) ?_
    refine AO.nil ?_
    refine AX.ret ?_
    obtain ⟨rfl, z137⟩ := Prod.mk.inj (some_inj hd125)
    obtain ⟨rfl, rfl⟩ := Prod.mk.inj z137
    have S139 := S136.front 0 rfl
    have S140 := S139.keep 1
    exact ⟨.inr rfl, _, res2 rfl (rv_cell (vs := [.int .i64 x121, .slice p126 rs122.length c127]) rfl Try.isAgg39 Try.sizeOf39 rfl (row_cells (S136.get (k := 1) rfl))) (rv_tmp rfl), p126, c127, rfl, S140, B129, a130⟩

set_option maxHeartbeats 4000000 in
theorem W_spec_ColumnsOf (fu : Nat) (H : AHeap) (a0_0 : Int) (p_a0_1 : Option Addr) (c_a0_1 : Nat) (T_a0_1 : Tb) (a0_1 : List (List Int)) (t_a0_1 : trows T_a0_1 = a0_1) (v_a0_1 : Vw H p_a0_1 a0_1.length c_a0_1 (tcells T_a0_1)) (w_a0_1 : TVw H T_a0_1) (r0 : Int) (r1 : List (List Int)) (r2 : Int) (hd : D_spec_ColumnsOf fu a0_0 a0_1 = some (r0, r1, r2)) : ∃ v G', ACall Try.prog 48 [.agg [.int .i64 a0_0, .slice p_a0_1 a0_1.length c_a0_1].toArray] H v G' ∧ ∃ (p_r1 : Option Addr) (c_r1 : Nat), (v = .tuple #[.agg [.int .i64 r0, .slice p_r1 r1.length c_r1].toArray, .int .i64 r2]) ∧ St [] H G' [oseg p_r1 (ints r1.flatten)] ∧ Sb p_r1 r1.length c_r1 14 ∧ All 14 r1 := by
  refine ACall.bodyX (args := [.agg [.int .i64 a0_0, .slice p_a0_1 a0_1.length c_a0_1].toArray]) (N := 20) [(0, .agg [.int .i64 a0_0, .slice p_a0_1 a0_1.length c_a0_1].toArray)] (fun v G' => ∃ (p_r1 : Option Addr) (c_r1 : Nat), (v = .tuple #[.agg [.int .i64 r0, .slice p_r1 r1.length c_r1].toArray, .int .i64 r2]) ∧ St [] H G' [oseg p_r1 (ints r1.flatten)] ∧ Sb p_r1 r1.length c_r1 14 ∧ All 14 r1) Try.func48 rfl rfl rfl rfl ?_
  unfold D_spec_ColumnsOf at hd
  have S0 : St [] H H [] := St.nil H
  refine AX.seq ?_
  refine AX.region ?_
  obtain ⟨G100, i101, hii101, hHG100, S102⟩ := S0.new (AObj.row false ([.int .i64 a0_0, .slice p_a0_1 a0_1.length c_a0_1]))
  refine AO.c rfl (s_box (i := i101) (cs := [.int .i64 a0_0, .slice p_a0_1 a0_1.length c_a0_1]) rfl hii101 rfl hHG100) ?_
  obtain ⟨G104, i105, hii105, hHG104, S106⟩ := S102.new (AObj.row false ([.int .i64 0, .slice none 0 0]))
  refine AO.c rfl (s_alloc (i := i105) (cs := [.int .i64 0, .slice none 0 0]) Try.zeroValue39 rfl rfl hii105 hHG104) ?_
  refine AO.p rfl (p_assign rfl) ?_
  refine AO.nil ?_
  refine AX.seq ?_
  refine AX.seq ?_
  refine AX.region ?_
  refine AO.c rfl (s_loadN (vs := [.int .i64 a0_0, .slice p_a0_1 a0_1.length c_a0_1]) Try.isAgg26 Try.sizeOf26 rfl rfl (row_cells (S106.get (k := 1) rfl))) ?_
  obtain ⟨b108, h109, hd110⟩ := bnd_some hd
  refine AO.c rfl (o_call (vs := [.agg [.int .i64 a0_0, .slice p_a0_1 a0_1.length c_a0_1].toArray]) rfl Try.call58 (W_spec_l04Is fu G104 a0_0 p_a0_1 c_a0_1 T_a0_1 a0_1 t_a0_1 (S106.view v_a0_1) (S106.tview w_a0_1) b108 h109)) ?_
  refine AO.p rfl (p_not rfl) ?_
  refine AO.nil ?_
  refine AX.cond rfl (fun c112 => ?_) (fun c112 => ?_)
  · have hd113 := bif_t c112 hd110
    refine AX.seq ?_
    refine AX.region ?_
    refine AO.p rfl (p_build2 (vs := []) (cs := [.int .i64 0, .slice none 0 0]) Try.underlying39 rfl rfl rfl Try.sizeOf2 Try.sizeOf37 Try.zeroValue39 rfl rfl rfl rfl rfl) ?_
    obtain ⟨G114, hHG114, S115⟩ := S106.set (k := 0) (i := i105) rfl (AObj.row false ([.int .i64 0, .slice none 0 0]))
    refine AO.s (s_storeAll (vs := [.int .i64 0, .slice none 0 0]) Try.sizeOf39 rfl rfl (ones_list rfl) (S106.get (k := 0) rfl) rfl rfl hHG114) ?_
    refine AO.p rfl (p_assign rfl) ?_
    refine AO.nil ?_
    refine AX.ret ?_
    obtain ⟨rfl, z116⟩ := Prod.mk.inj (some_inj hd113)
    obtain ⟨rfl, rfl⟩ := Prod.mk.inj z116
    have S118 : St [] H G114 (oseg none (ints (List.flatten [])) :: _) := S115.nilseg 0
    have S119 := S118.keep 1
    exact ⟨.inr rfl, _, res2 rfl (rv_cell (vs := [.int .i64 0, .slice none 0 0]) rfl Try.isAgg39 Try.sizeOf39 rfl (row_cells (S115.get (k := 0) rfl))) (rv_tmp rfl), none, 0, rfl, S119, Sb.nil, all_nil⟩
  · have hd120 := bif_f c112 hd110
    refine AX.skip ?_
    refine AX.seq ?_
    refine AX.region ?_
    refine AO.c rfl (s_loadN (vs := [.int .i64 a0_0, .slice p_a0_1 a0_1.length c_a0_1]) Try.isAgg26 Try.sizeOf26 rfl rfl (row_cells (S106.get (k := 1) rfl))) ?_
    obtain ⟨⟨x121, rs122⟩, h123, hd124⟩ := bnd_some hd120
    obtain ⟨_, G133, hc132, p125, c126, T129, rfl, S134, B128, t130, s131⟩ := W_spec_l04Transposed fu G104 a0_0 p_a0_1 c_a0_1 T_a0_1 a0_1 t_a0_1 (S106.view v_a0_1) (S106.tview w_a0_1) x121 rs122 h123
    have S135 := S106.call S134
    refine AO.c rfl (o_call (vs := [.agg [.int .i64 a0_0, .slice p_a0_1 a0_1.length c_a0_1].toArray]) rfl Try.call59 hc132) ?_
    obtain ⟨⟨x136, rs137, b138⟩, h139, hd140⟩ := bnd_some hd124
    obtain ⟨_, G147, hc146, p141, c142, rfl, S148, B144, a145⟩ := W_spec_l04Rows fu G133 x121 p125 c126 T129 rs122 t130 (S135.oview (k := 0) rfl B128 (tc_len1 t130 rfl)) (S135.oviewT (k := 1) rfl s131) x136 rs137 b138 h139
    have S149 := S135.call S148
    refine AO.c rfl (o_call (vs := [.agg [.int .i64 x121, .slice p125 rs122.length c126].toArray]) rfl Try.call94 hc146) ?_
    refine AO.p rfl (p_move rfl) ?_
    refine AO.p rfl (p_extract rfl rfl) ?_
    refine AO.p rfl (p_extract rfl rfl) ?_
    obtain ⟨G150, i151, hii151, hHG150, S152⟩ := S149.new (AObj.row false ([.int .i64 0, .slice none 0 0]))
    refine AO.c rfl (s_alloc (i := i151) (cs := [.int .i64 0, .slice none 0 0]) Try.zeroValue39 rfl rfl hii151 hHG150) ?_
    obtain ⟨G154, hHG154, S155⟩ := S152.set (k := 0) (i := i151) rfl (AObj.row false ([.int .i64 x136, .slice p141 rs137.length c142]))
    refine AO.s (s_storeAll (vs := [.int .i64 x136, .slice p141 rs137.length c142]) Try.sizeOf39 rfl rfl (ones_list rfl) (S152.get (k := 0) rfl) rfl rfl hHG154) ?_
    refine AO.p rfl (p_assign rfl) ?_
    refine AO.nil ?_
    refine AX.seq ?_
    refine AX.seq ?_
    refine AX.region ?_
    refine AO.p rfl (p_move rfl) ?_
    refine AO.p rfl (p_not rfl) ?_
    refine AO.nil ?_
    refine AX.cond rfl (fun c156 => ?_) (fun c156 => ?_)
    · have hd157 := bif_t c156 hd140
      refine AX.seq ?_
      refine AX.region ?_
      refine AO.p rfl (p_build2 (vs := []) (cs := [.int .i64 0, .slice none 0 0]) Try.underlying39 rfl rfl rfl Try.sizeOf2 Try.sizeOf37 Try.zeroValue39 rfl rfl rfl rfl rfl) ?_
      obtain ⟨G158, hHG158, S159⟩ := S155.set (k := 4) (i := i105) rfl (AObj.row false ([.int .i64 0, .slice none 0 0]))
      refine AO.s (s_storeAll (vs := [.int .i64 0, .slice none 0 0]) Try.sizeOf39 rfl rfl (ones_list rfl) (S155.get (k := 4) rfl) rfl rfl hHG158) ?_
      refine AO.p rfl (p_assign rfl) ?_
      refine AO.nil ?_
      refine AX.ret ?_
      obtain ⟨rfl, z160⟩ := Prod.mk.inj (some_inj hd157)
      obtain ⟨rfl, rfl⟩ := Prod.mk.inj z160
      have S162 : St [] H G158 (oseg none (ints (List.flatten [])) :: _) := S159.nilseg 0
      have S163 := S162.keep 1
      exact ⟨.inr rfl, _, res2 rfl (rv_cell (vs := [.int .i64 0, .slice none 0 0]) rfl Try.isAgg39 Try.sizeOf39 rfl (row_cells (S159.get (k := 4) rfl))) (rv_tmp rfl), none, 0, rfl, S163, Sb.nil, all_nil⟩
    · have hd164 := bif_f c156 hd140
      refine AX.skip ?_
      refine AX.seq ?_
      refine AX.region ?_
      refine AO.c rfl (s_loadN (vs := [.int .i64 x136, .slice p141 rs137.length c142]) Try.isAgg39 Try.sizeOf39 rfl rfl (row_cells (S155.get (k := 0) rfl))) ?_
      obtain ⟨G165, hHG165, S166⟩ := S155.set (k := 4) (i := i105) rfl (AObj.row false ([.int .i64 x136, .slice p141 rs137.length c142]))
      refine AO.s (s_storeAll (vs := [.int .i64 x136, .slice p141 rs137.length c142]) Try.sizeOf39 rfl rfl (ones_list rfl) (S155.get (k := 4) rfl) rfl rfl hHG165) ?_
      refine AO.p rfl (p_assign rfl) ?_
      refine AO.nil ?_
      refine AX.ret ?_
      obtain ⟨rfl, z167⟩ := Prod.mk.inj (some_inj hd164)
      obtain ⟨rfl, rfl⟩ := Prod.mk.inj z167
      have S169 := S166.front 1 rfl
      have S170 := S169.keep 1
      exact ⟨.inr rfl, _, res2 rfl (rv_cell (vs := [.int .i64 x136, .slice p141 rs137.length c142]) rfl Try.isAgg39 Try.sizeOf39 rfl (row_cells (S166.get (k := 4) rfl))) (rv_tmp rfl), p141, c142, rfl, S170, B144, a145⟩

set_option maxHeartbeats 4000000 in
theorem W_impl_ColumnsOf (fu : Nat) (H : AHeap) (a0_0 : Int) (p_a0_1 : Option Addr) (c_a0_1 : Nat) (T_a0_1 : Tb) (a0_1 : List (List Int)) (t_a0_1 : trows T_a0_1 = a0_1) (v_a0_1 : Vw H p_a0_1 a0_1.length c_a0_1 (tcells T_a0_1)) (w_a0_1 : TVw H T_a0_1) (r0 : Int) (r1 : List (List Int)) (r2 : Int) (hd : D_impl_ColumnsOf fu a0_0 a0_1 = some (r0, r1, r2)) : ∃ v G', ACall Try.prog 49 [.agg [.int .i64 a0_0, .slice p_a0_1 a0_1.length c_a0_1].toArray] H v G' ∧ ∃ (p_r1 : Option Addr) (c_r1 : Nat), (v = .tuple #[.agg [.int .i64 r0, .slice p_r1 r1.length c_r1].toArray, .int .i64 r2]) ∧ St [] H G' [oseg p_r1 (ints r1.flatten)] ∧ Sb p_r1 r1.length c_r1 14 ∧ All 14 r1 := by
  refine ACall.bodyX (args := [.agg [.int .i64 a0_0, .slice p_a0_1 a0_1.length c_a0_1].toArray]) (N := 13) [(0, .agg [.int .i64 a0_0, .slice p_a0_1 a0_1.length c_a0_1].toArray)] (fun v G' => ∃ (p_r1 : Option Addr) (c_r1 : Nat), (v = .tuple #[.agg [.int .i64 r0, .slice p_r1 r1.length c_r1].toArray, .int .i64 r2]) ∧ St [] H G' [oseg p_r1 (ints r1.flatten)] ∧ Sb p_r1 r1.length c_r1 14 ∧ All 14 r1) Try.func49 rfl rfl rfl rfl ?_
  unfold D_impl_ColumnsOf at hd
  have S0 : St [] H H [] := St.nil H
  refine AX.seq ?_
  refine AX.region ?_
  obtain ⟨G100, i101, hii101, hHG100, S102⟩ := S0.new (AObj.row false ([.int .i64 a0_0, .slice p_a0_1 a0_1.length c_a0_1]))
  refine AO.c rfl (s_box (i := i101) (cs := [.int .i64 a0_0, .slice p_a0_1 a0_1.length c_a0_1]) rfl hii101 rfl hHG100) ?_
  obtain ⟨G104, i105, hii105, hHG104, S106⟩ := S102.new (AObj.row false ([.int .i64 0, .slice none 0 0]))
  refine AO.c rfl (s_alloc (i := i105) (cs := [.int .i64 0, .slice none 0 0]) Try.zeroValue39 rfl rfl hii105 hHG104) ?_
  refine AO.p rfl (p_assign rfl) ?_
  refine AO.nil ?_
  refine AX.seq ?_
  refine AX.seq ?_
  refine AX.region ?_
  refine AO.c rfl (s_loadN (vs := [.int .i64 a0_0, .slice p_a0_1 a0_1.length c_a0_1]) Try.isAgg26 Try.sizeOf26 rfl rfl (row_cells (S106.get (k := 1) rfl))) ?_
  obtain ⟨b108, h109, hd110⟩ := bnd_some hd
  refine AO.c rfl (o_call (vs := [.agg [.int .i64 a0_0, .slice p_a0_1 a0_1.length c_a0_1].toArray]) rfl Try.call60 (W_impl_IsSquare fu G104 a0_0 p_a0_1 c_a0_1 T_a0_1 a0_1 t_a0_1 (S106.view v_a0_1) (S106.tview w_a0_1) b108 h109)) ?_
  refine AO.p rfl (p_not rfl) ?_
  refine AO.nil ?_
  refine AX.cond rfl (fun c112 => ?_) (fun c112 => ?_)
  · have hd113 := bif_t c112 hd110
    refine AX.seq ?_
    refine AX.region ?_
    refine AO.p rfl (p_build2 (vs := []) (cs := [.int .i64 0, .slice none 0 0]) Try.underlying39 rfl rfl rfl Try.sizeOf2 Try.sizeOf37 Try.zeroValue39 rfl rfl rfl rfl rfl) ?_
    obtain ⟨G114, hHG114, S115⟩ := S106.set (k := 0) (i := i105) rfl (AObj.row false ([.int .i64 0, .slice none 0 0]))
    refine AO.s (s_storeAll (vs := [.int .i64 0, .slice none 0 0]) Try.sizeOf39 rfl rfl (ones_list rfl) (S106.get (k := 0) rfl) rfl rfl hHG114) ?_
    refine AO.p rfl (p_assign rfl) ?_
    refine AO.nil ?_
    refine AX.ret ?_
    obtain ⟨rfl, z116⟩ := Prod.mk.inj (some_inj hd113)
    obtain ⟨rfl, rfl⟩ := Prod.mk.inj z116
    have S118 : St [] H G114 (oseg none (ints (List.flatten [])) :: _) := S115.nilseg 0
    have S119 := S118.keep 1
    exact ⟨.inr rfl, _, res2 rfl (rv_cell (vs := [.int .i64 0, .slice none 0 0]) rfl Try.isAgg39 Try.sizeOf39 rfl (row_cells (S115.get (k := 0) rfl))) (rv_tmp rfl), none, 0, rfl, S119, Sb.nil, all_nil⟩
  · have hd120 := bif_f c112 hd110
    refine AX.skip ?_
    refine AX.seq ?_
    refine AX.region ?_
    refine AO.c rfl (s_loadN (vs := [.int .i64 a0_0, .slice p_a0_1 a0_1.length c_a0_1]) Try.isAgg26 Try.sizeOf26 rfl rfl (row_cells (S106.get (k := 1) rfl))) ?_
    obtain ⟨⟨x121, rs122⟩, h123, hd124⟩ := bnd_some hd120
    obtain ⟨_, G133, hc132, p125, c126, T129, rfl, S134, B128, t130, s131⟩ := W_impl_Square_turned fu G104 a0_0 p_a0_1 c_a0_1 T_a0_1 a0_1 t_a0_1 (S106.view v_a0_1) (S106.tview w_a0_1) x121 rs122 h123
    have S135 := S106.call S134
    refine AO.c rfl (o_call (vs := [.agg [.int .i64 a0_0, .slice p_a0_1 a0_1.length c_a0_1].toArray]) rfl Try.call61 hc132) ?_
    obtain ⟨⟨x136, rs137, x138⟩, h139, hd140⟩ := bnd_some hd124
    obtain ⟨_, G147, hc146, p141, c142, rfl, S148, B144, a145⟩ := W_impl_Square_rows fu G133 x121 p125 c126 T129 rs122 t130 (S135.oview (k := 0) rfl B128 (tc_len1 t130 rfl)) (S135.oviewT (k := 1) rfl s131) x136 rs137 x138 h139
    have S149 := S135.call S148
    refine AO.c rfl (o_call (vs := [.agg [.int .i64 x121, .slice p125 rs122.length c126].toArray]) rfl Try.call95 hc146) ?_
    refine AO.p rfl (p_extract rfl rfl) ?_
    refine AO.p rfl (p_extract rfl rfl) ?_
    obtain ⟨G150, hHG150, S151⟩ := S149.set (k := 3) (i := i105) rfl (AObj.row false ([.int .i64 x136, .slice p141 rs137.length c142]))
    refine AO.s (s_storeAll (vs := [.int .i64 x136, .slice p141 rs137.length c142]) Try.sizeOf39 rfl rfl (ones_list rfl) (S149.get (k := 3) rfl) rfl rfl hHG150) ?_
    refine AO.p rfl (p_assign rfl) ?_
    refine AO.nil ?_
    refine AX.ret ?_
    obtain ⟨rfl, z152⟩ := Prod.mk.inj (some_inj hd140)
    obtain ⟨rfl, rfl⟩ := Prod.mk.inj z152
    have S154 := S151.front 0 rfl
    have S155 := S154.keep 1
    exact ⟨.inr rfl, _, res2 rfl (rv_cell (vs := [.int .i64 x136, .slice p141 rs137.length c142]) rfl Try.isAgg39 Try.sizeOf39 rfl (row_cells (S151.get (k := 3) rfl))) (rv_tmp rfl), p141, c142, rfl, S155, B144, a145⟩

end Go.Proofs.Ytpaaoafgahbokaa
