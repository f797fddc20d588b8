/-
 The program computes that, printed by a program. No condition.
-/
import Derived.Test.YtdafmafigcljkaaDTd
import Derived.Test.YtdafmafigcljkaaWTc
import Derived.Test.YtdafmafigcljkaaProg
import Derived.KernelRfl
namespace Go.Proofs.Ytdafmafigcljkaa
open Go Go.RowKit Am
set_option linter.unusedVariables false
set_option linter.unusedSimpArgs false
set_option maxRecDepth 20000
set_option maxHeartbeats 4000000 in
theorem W_spec_TypesOf (fu : Nat) (H : AHeap) (a0_0 : Int) (p_a0_1 : Option Addr) (c_a0_1 : Nat) (a0_1 : List (List Int)) (a_a0_1 : All 14 a0_1) (v_a0_1 : Vw H p_a0_1 a0_1.length c_a0_1 (ints a0_1.flatten)) (r0 : List (List Int)) (r1 : Int) (hd : D_spec_TypesOf fu a0_0 a0_1 = some (r0, r1)) : ∃ v G', ACall Try.prog 47 [.agg [.int .i64 a0_0, .slice p_a0_1 a0_1.length c_a0_1].toArray] H v G' ∧ ∃ (p_r0 : Option Addr) (c_r0 : Nat) (T_r0 : Tb), (v = .tuple #[.slice p_r0 r0.length c_r0, .int .i64 r1]) ∧ St [] H G' [oseg p_r0 (tcells T_r0), tseg T_r0] ∧ Sb p_r0 r0.length c_r0 1 ∧ trows T_r0 = r0 ∧ TSb T_r0 := by
 refine ACall.bodyX (args := [.agg [.int .i64 a0_0, .slice p_a0_1 a0_1.length c_a0_1].toArray]) (N := 44) [(0, .agg [.int .i64 a0_0, .slice p_a0_1 a0_1.length c_a0_1].toArray)] (fun v G' => ∃ (p_r0 : Option Addr) (c_r0 : Nat) (T_r0 : Tb), (v = .tuple #[.slice p_r0 r0.length c_r0, .int .i64 r1]) ∧ St [] H G' [oseg p_r0 (tcells T_r0), tseg T_r0] ∧ Sb p_r0 r0.length c_r0 1 ∧ trows T_r0 = r0 ∧ TSb T_r0) Try.func47 rfl rfl rfl rfl ?_
 unfold D_spec_TypesOf at hd
 have S0 : St [] H H [] := St.nil H
 refine AX.seq ?_
 refine AX.region ?_
 obtain ⟨G100, i101, hii101, hHG100, S102⟩ := S0.new (AObj.row false ([.int .i64 a0_0, .slice p_a0_1 a0_1.length c_a0_1]))
 refine AO.c rfl (s_box (i := i101) (cs := [.int .i64 a0_0, .slice p_a0_1 a0_1.length c_a0_1]) rfl hii101 rfl hHG100) ?_
 refine AO.p rfl (p_assign rfl) ?_
 refine AO.p rfl (p_assign rfl) ?_
 refine AO.nil ?_
 refine AX.seq ?_
 refine AX.seq ?_
 refine AX.region ?_
 refine AO.c rfl (s_loadN (vs := [.int .i64 a0_0, .slice p_a0_1 a0_1.length c_a0_1]) Try.isAgg37 Try.sizeOf37 rfl rfl (row_cells (S102.get (k := 0) rfl))) ?_
 obtain ⟨b104, h105, hd106⟩ := bnd_some hd
 refine AO.c rfl (o_call (vs := [.agg [.int .i64 a0_0, .slice p_a0_1 a0_1.length c_a0_1].toArray]) rfl Try.call63 (W_spec_l01Is fu G100 a0_0 p_a0_1 c_a0_1 a0_1 a_a0_1 (S102.view v_a0_1) b104 h105)) ?_
 refine AO.p rfl (p_not rfl) ?_
 refine AO.nil ?_
 refine AX.cond rfl (fun c108 => ?_) (fun c108 => ?_)
 ·have hd109 := bif_t c108 hd106
  refine AX.seq ?_
  refine AX.region ?_
  refine AO.p rfl (p_assign rfl) ?_
  refine AO.p rfl (p_assign rfl) ?_
  refine AO.nil ?_
  refine AX.ret ?_
  obtain ⟨rfl, rfl⟩ := Prod.mk.inj (some_inj hd109)
  have S111 : St [] H G100 (tseg [] :: _) := S102.nilseg 0
  have S112 : St [] H G100 (oseg none (tcells []) :: _) := S111.nilseg 0
  have S113 := S112.keep 2
  exact ⟨.inr rfl, _, res2 rfl (rv_tmp rfl) (rv_tmp rfl), none, 0, [], rfl, S113, Sb.nil, rfl, TSb.nil⟩
 ·have hd114 := bif_f c108 hd106
  refine AX.skip ?_
  refine AX.seq ?_
  refine AX.region ?_
  obtain ⟨G115, i116, hii116, hHG115, S117⟩ := S102.new (AObj.row false (tcells []))
  have S117t := S117.nilseg 1
  refine AO.c rfl (s_build0 (i := i116) Try.underlying43 Try.sizeOf58 hii116 hHG115) ?_
  refine AO.p rfl (p_assign rfl) ?_
  refine AO.nil ?_
  refine AX.seq ?_
  refine AX.seq ?_
  refine AX.region ?_
  refine AO.p rfl (p_assign rfl) ?_
  refine AO.nil ?_
  obtain ⟨r752, hl753, hd754⟩ := bnd_some hd114
  refine AX.cutS (fun t' H' => ∃ (rs750 : List (List Int)) (p748 : Option Addr) (c749 : Nat) (T751 : Tb), rs750 = r752 ∧ St [] H H' [oseg p748 (tcells T751), tseg T751] ∧ trows T751 = rs750 ∧ TSb T751 ∧ Sb p748 (rs750.length) c749 1 ∧ Am.Sub [(4, .slice p748 rs750.length c749)] t') ?_ ?_
  ·refine AX.block ?_
   refine AX.loopF (fun s' t' H' => ∃ (rs540 : List (List Int)) (x542 : Int) (p538 : Option Addr) (c539 : Nat) (T541 : Tb), (rs540, x542) = s' ∧ St [] H H' [[(i101, AObj.row false ([.int .i64 a0_0, .slice p_a0_1 a0_1.length c_a0_1]))], oseg p538 (tcells T541), tseg T541] ∧ trows T541 = rs540 ∧ TSb T541 ∧ Sb p538 (rs540.length) c539 1 ∧ Am.Sub [(1, .pointer (some ⟨i101, 0, none⟩)), (4, .slice p538 rs540.length c539), (5, .int .i64 x542)] t') hl753 ?_ ?_
   ·skip
    have S755 := S117t.front 1 rfl
    have S756 := S755.front 1 rfl
    have S757 := S756.front 2 rfl
    exact ⟨[], 0, (some (Addr.mk i116 0 none)), 0, [], rfl, S757, rfl, TSb.nil, (Sb.lit (n := 0) (by decide)), Sub.cons' rfl rfl (Sub.cons' rfl rfl (Sub.cons' rfl rfl (Sub.nil _)))⟩
   ·rintro n758 _ t' G762 ⟨rs540, x542, p538, c539, T541, rfl, S761, tT541, sT541, Bo537, hsub763⟩ o764 ho759 hk760
    refine AX.sub hsub763 ?_
    unfold D_spec_TypesOf_s0 at ho759
    refine AX.seq ?_
    refine AX.seq ?_
    refine AX.region ?_
    refine AO.p rfl (p_move rfl) ?_
    refine AO.p rfl (s_fieldAddr Try.underlying37 rfl Try.sizeOf35 (by decide) rfl rfl) ?_
    refine AO.c rfl (s_load Try.isAgg35 rfl (row_cell (S761.get (k := 0) rfl) rfl)) ?_
    refine AO.p rfl (p_len_slice rfl Try.underlying35) ?_
    refine AO.p rfl (p_lss rfl rfl) ?_
    refine AO.nil ?_
    refine AX.cond rfl (fun c765 => ?_) (fun c765 => ?_)
    ·have hd766 := bif_t c765 ho759
     refine AX.skip ?_
     refine AX.seq ?_
     refine AX.block ?_
     refine AX.seq ?_
     refine AX.region ?_
     refine AO.p rfl (p_move rfl) ?_
     obtain ⟨k767, hd768⟩ := chk_some hd766
     refine AO.p rfl (p_addE rfl rfl k767) ?_
     refine AO.p rfl (p_assign rfl) ?_
     refine AO.nil ?_
     obtain ⟨r905, hl906, hd907⟩ := bnd_some hd768
     refine AX.cutS (fun t' H' => ∃ (rs903 : List (List Int)) (p901 : Option Addr) (c902 : Nat) (T904 : Tb), rs903 = r905 ∧ St [] H H' [[(i101, AObj.row false ([.int .i64 a0_0, .slice p_a0_1 a0_1.length c_a0_1]))], oseg p901 (tcells T904), tseg T904] ∧ trows T904 = rs903 ∧ TSb T904 ∧ Sb p901 (rs903.length) c902 1 ∧ Am.Sub [(1, .pointer (some ⟨i101, 0, none⟩)), (4, .slice p901 rs903.length c902), (5, .int .i64 x542)] t') ?_ ?_
     ·refine AX.block ?_
      refine AX.loopF (fun s' t' H' => ∃ (rs858 : List (List Int)) (x860 : Int) (p856 : Option Addr) (c857 : Nat) (T859 : Tb), (rs858, x860) = s' ∧ St [] H H' [[(i101, AObj.row false ([.int .i64 a0_0, .slice p_a0_1 a0_1.length c_a0_1]))], oseg p856 (tcells T859), tseg T859] ∧ trows T859 = rs858 ∧ TSb T859 ∧ Sb p856 (rs858.length) c857 1 ∧ Am.Sub [(1, .pointer (some ⟨i101, 0, none⟩)), (4, .slice p856 rs858.length c857), (5, .int .i64 x542), (6, .int .i64 x860)] t') hl906 ?_ ?_
      ·skip
       have S908 := S761.front 2 rfl
       have S909 := S908.front 2 rfl
       have S910 := S909.front 2 rfl
       exact ⟨rs540, (x542 + 1), p538, c539, T541, rfl, S910, tT541, sT541, Bo537, Sub.cons' rfl rfl (Sub.cons' rfl rfl (Sub.cons' rfl rfl (Sub.cons' rfl rfl (Sub.nil _))))⟩
      ·rintro n911 _ t' G915 ⟨rs858, x860, p856, c857, T859, rfl, S914, tT859, sT859, Bo855, hsub916⟩ o917 ho912 hk913
       refine AX.sub hsub916 ?_
       unfold D_spec_TypesOf_s1 at ho912
       refine AX.seq ?_
       refine AX.seq ?_
       refine AX.region ?_
       refine AO.p rfl (p_move rfl) ?_
       refine AO.p rfl (s_fieldAddr Try.underlying37 rfl Try.sizeOf35 (by decide) rfl rfl) ?_
       refine AO.c rfl (s_load Try.isAgg35 rfl (row_cell (S914.get (k := 0) rfl) rfl)) ?_
       refine AO.p rfl (p_len_slice rfl Try.underlying35) ?_
       refine AO.p rfl (p_lss rfl rfl) ?_
       refine AO.nil ?_
       refine AX.cond rfl (fun c918 => ?_) (fun c918 => ?_)
       ·have hd919 := bif_t c918 ho912
        refine AX.skip ?_
        refine AX.seq ?_
        refine AX.block ?_
        refine DR.startS [false, false, false, false, false, false, false, false, false, false, false, false, false, true, false, true, false] mix (by kernel_rfl) (fun hst => ?_)
        refine DR.p rfl rfl (p_move rfl) ?_
        refine DR.p rfl rfl (s_fieldAddr Try.underlying37 rfl Try.sizeOf2 (by decide) rfl rfl) ?_
        refine DR.r rfl rfl (r_load rfl Try.isAgg2) (one_read (row_cell (S914.get (k := 0) rfl) rfl) (.of_flat0 rfl)) ?_
        refine DR.p rfl rfl (s_fieldAddr Try.underlying37 rfl Try.sizeOf35 (by decide) rfl rfl) ?_
        refine DR.r rfl rfl (r_load rfl Try.isAgg35) (one_read (row_cell (S914.get (k := 0) rfl) rfl) (S914.view v_a0_1).inn.bel) ?_
        refine DR.p rfl rfl (p_move rfl) ?_
        obtain ⟨k920, hd921⟩ := chk_some hd919
        refine DR.p rfl rfl (s_indexV (q := off p_a0_1 + x542.toNat * 14) Try.underlying35 Try.sizeOf54 rfl ((S914.view v_a0_1).rowne a_a0_1 (by decide) (lt_len rfl (inR_lt k920))) rfl k920 rfl) ?_
        refine DR.r rfl rfl (r_loadN (vs := ints (rw_ a0_1 x542.toNat)) rfl Try.isAgg54 Try.sizeOf54 (ints_len (rw_len a_a0_1 (lt_len rfl (inR_lt k920))))) (many_row ((S914.view v_a0_1).row a_a0_1 (lt_len rfl (inR_lt k920))) bel_ints) ?_
        refine DR.p rfl rfl (s_fieldAddr Try.underlying37 rfl Try.sizeOf35 (by decide) rfl rfl) ?_
        refine DR.r rfl rfl (r_load rfl Try.isAgg35) (one_read (row_cell (S914.get (k := 0) rfl) rfl) (S914.view v_a0_1).inn.bel) ?_
        refine DR.p rfl rfl (p_move rfl) ?_
        obtain ⟨k922, hd923⟩ := chk_some hd921
        refine DR.p rfl rfl (s_indexV (q := off p_a0_1 + x860.toNat * 14) Try.underlying35 Try.sizeOf54 rfl ((S914.view v_a0_1).rowne a_a0_1 (by decide) (lt_len rfl (inR_lt k922))) rfl k922 rfl) ?_
        refine DR.r rfl rfl (r_loadN (vs := ints (rw_ a0_1 x860.toNat)) rfl Try.isAgg54 Try.sizeOf54 (ints_len (rw_len a_a0_1 (lt_len rfl (inR_lt k922))))) (many_row ((S914.view v_a0_1).row a_a0_1 (lt_len rfl (inR_lt k922))) bel_ints) ?_
        obtain ⟨xs924, h925, hd926⟩ := bnd_some hd923
        obtain ⟨_, G932, hc931, p927, c928, rfl, S933, B930⟩ := W_spec_l02Type fu G915 a0_0 (rw_ a0_1 x542.toNat) (rw_len a_a0_1 (lt_len rfl (inR_lt k920))) (rw_ a0_1 x860.toNat) (rw_len a_a0_1 (lt_len rfl (inR_lt k922))) xs924 h925
        have S934 := S914.call S933
        refine DR.w rfl rfl (o_call (vs := [.int .i64 a0_0, .agg (ints (rw_ a0_1 x542.toNat)).toArray, .agg (ints (rw_ a0_1 x860.toNat)).toArray]) rfl Try.call101 hc931) (S933.len) ?_
        obtain ⟨G935, i936, hii936, hHG935, S937⟩ := S934.new (AObj.row false (tcells [(p927, c928, xs924)]))
        have S939 := (S937.front 1 rfl).tone p927 c928 xs924 rfl
        refine DR.a rfl rfl hii936 hHG935 (a_buildT1 (X := [(p927, c928, xs924)]) (n := xs924.length) rfl Try.underlying43 Try.sizeOf58 Try.zeroValue58 rfl rfl) ?_
        obtain ⟨k940, hd941⟩ := chk_some hd926
        obtain ⟨p942, c943, G944, haG944, S945, Bp942⟩ := S939.app (k := 3) rfl Bo855 (tcells [(p927, c928, xs924)]) 1 (tc_len1 rfl rfl)
        have S946 := S945.cellsEq (k := 3) (us' := tcells (T859 ++ [(p927, c928, xs924)])) (tcells_app _ _).symm rfl
        have BS946 : Sb p942 ((rs858 ++ [xs924]).length) c943 1 := (show rs858.length + 1 = (rs858 ++ [xs924]).length from len_app (a := rs858) (b := [xs924]) rfl rfl) ▸ Bp942
        have S947 := S946.front 0 rfl
        have S948 := (S947.front 4 rfl).tmerge
        have S949 := S948.drop 1 rfl
        refine DR.w rfl rfl (s_app (by_ := 24) (us := tcells T859) (vs := tcells [(p927, c928, xs924)]) Try.underlying43 Try.underlying43 Try.typeInfo58 Try.sizeOf58 Try.zeroValue58 rfl rfl rfl rfl rfl rfl rfl (S939.buf (k := 3) rfl Bo855 (tc_len1 tT859 rfl)) (S939.oview (k := 1) rfl (Sb.lit (n := 1) (by decide)) (tc_len1 rfl rfl)) (tc_len1 rfl rfl) tcells_one k940 haG944 (show rs858.length + 1 = (rs858 ++ [xs924]).length from len_app (a := rs858) (b := [xs924]) rfl rfl)) (appR_len haG944) ?_
        refine DR.p rfl rfl (p_assign rfl) ?_
        refine DR.nil 17 [] hst (by kernel_rfl) trivial ?_
        refine AX.region ?_
        refine AO.p rfl (p_move rfl) ?_
        obtain ⟨k950, hd951⟩ := chk_some hd941
        refine AO.p rfl (p_addE rfl rfl k950) ?_
        refine AO.p rfl (p_assign rfl) ?_
        refine AO.nil ?_
        obtain rfl := some_inj hd951
        have S953 := S949.front 0 rfl
        have S954 := S953.front 2 rfl
        have S955 := S954.front 2 rfl
        exact ⟨((rs858 ++ [xs924]), x860 + 1), hk913, (rs858 ++ [xs924]), (x860 + 1), p942, c943, (T859 ++ [(p927, c928, xs924)]), rfl, S955, (trows_apps tT859 rfl), (TSb.app sT859 (TSb.one (sb_len rfl B930))), BS946, Sub.cons' rfl rfl (Sub.cons' rfl rfl (Sub.cons' rfl rfl (Sub.cons' rfl rfl (Sub.nil _))))⟩
       ·have hd956 := bif_f c918 ho912
        refine AX.exit ?_
        obtain rfl := some_inj hd956
        have S957 := S914.front 2 rfl
        have S958 := S957.front 2 rfl
        have S959 := S958.front 2 rfl
        exact ⟨rs858, p856, c857, T859, hk913, S959, tT859, sT859, Bo855, Sub.cons' rfl rfl (Sub.cons' rfl rfl (Sub.cons' rfl rfl (Sub.nil _)))⟩
     ·rintro t' G961 ⟨rs903, p901, c902, T904, rfl, S960, tT904, sT904, Bo900, hsub962⟩
      refine ⟨_, hsub962, ?_⟩
      refine AX.region ?_
      refine AO.p rfl (p_move rfl) ?_
      obtain ⟨k963, hd964⟩ := chk_some hd907
      refine AO.p rfl (p_addE rfl rfl k963) ?_
      refine AO.p rfl (p_assign rfl) ?_
      refine AO.nil ?_
      obtain rfl := some_inj hd964
      have S966 := S960.front 2 rfl
      have S967 := S966.front 2 rfl
      have S968 := S967.front 2 rfl
      exact ⟨(rs903, x542 + 1), hk760, rs903, (x542 + 1), p901, c902, T904, rfl, S968, tT904, sT904, Bo900, Sub.cons' rfl rfl (Sub.cons' rfl rfl (Sub.cons' rfl rfl (Sub.nil _)))⟩
    ·have hd969 := bif_f c765 ho759
     refine AX.exit ?_
     obtain rfl := some_inj hd969
     have S970 := S761.front 2 rfl
     have S971 := S970.front 2 rfl
     have S972 := S971.keep 2
     exact ⟨rs540, p538, c539, T541, hk760, S972, tT541, sT541, Bo537, Sub.cons' rfl rfl (Sub.nil _)⟩
  ·rintro t' G974 ⟨rs750, p748, c749, T751, rfl, S973, tT751, sT751, Bo747, hsub975⟩
   refine ⟨_, hsub975, ?_⟩
   refine AX.seq ?_
   refine AX.region ?_
   refine AO.p rfl (p_move rfl) ?_
   refine AO.p rfl (p_assign rfl) ?_
   refine AO.p rfl (p_assign rfl) ?_
   refine AO.nil ?_
   refine AX.ret ?_
   obtain ⟨rfl, rfl⟩ := Prod.mk.inj (some_inj hd754)
   have S977 := S973.front 1 rfl
   have S978 := S977.front 1 rfl
   exact ⟨.inr rfl, _, res2 rfl (rv_tmp rfl) (rv_tmp rfl), p748, c749, T751, rfl, S978, Bo747, tT751, sT751⟩

set_option maxHeartbeats 4000000 in
theorem W_impl_TypesOf (fu : Nat) (H : AHeap) (a0_0 : Int) (p_a0_1 : Option Addr) (c_a0_1 : Nat) (a0_1 : List (List Int)) (a_a0_1 : All 14 a0_1) (v_a0_1 : Vw H p_a0_1 a0_1.length c_a0_1 (ints a0_1.flatten)) (u_a0_1 : c_a0_1 < capU ∨ c_a0_1 = capU + 14) (r0 : List (List Int)) (r1 : Int) (hd : D_impl_TypesOf fu a0_0 a0_1 = some (r0, r1)) : ∃ v G', ACall Try.prog 46 [.agg [.int .i64 a0_0, .slice p_a0_1 a0_1.length c_a0_1].toArray] H v G' ∧ ∃ (p_r0 : Option Addr) (c_r0 : Nat) (T_r0 : Tb), (v = .tuple #[.slice p_r0 r0.length c_r0, .int .i64 r1]) ∧ St [] H G' [oseg p_r0 (tcells T_r0), tseg T_r0] ∧ Sb p_r0 r0.length c_r0 1 ∧ trows T_r0 = r0 ∧ TSb T_r0 := by
 refine ACall.bodyX (args := [.agg [.int .i64 a0_0, .slice p_a0_1 a0_1.length c_a0_1].toArray]) (N := 45) [(0, .agg [.int .i64 a0_0, .slice p_a0_1 a0_1.length c_a0_1].toArray)] (fun v G' => ∃ (p_r0 : Option Addr) (c_r0 : Nat) (T_r0 : Tb), (v = .tuple #[.slice p_r0 r0.length c_r0, .int .i64 r1]) ∧ St [] H G' [oseg p_r0 (tcells T_r0), tseg T_r0] ∧ Sb p_r0 r0.length c_r0 1 ∧ trows T_r0 = r0 ∧ TSb T_r0) Try.func46 rfl rfl rfl rfl ?_
 unfold D_impl_TypesOf at hd
 have S0 : St [] H H [] := St.nil H
 refine AX.seq ?_
 refine AX.region ?_
 obtain ⟨G100, i101, hii101, hHG100, S102⟩ := S0.new (AObj.row false ([.int .i64 a0_0, .slice p_a0_1 a0_1.length c_a0_1]))
 refine AO.c rfl (s_box (i := i101) (cs := [.int .i64 a0_0, .slice p_a0_1 a0_1.length c_a0_1]) rfl hii101 rfl hHG100) ?_
 refine AO.p rfl (p_assign rfl) ?_
 refine AO.p rfl (p_assign rfl) ?_
 refine AO.nil ?_
 refine AX.seq ?_
 refine AX.seq ?_
 refine AX.region ?_
 refine AO.c rfl (s_loadN (vs := [.int .i64 a0_0, .slice p_a0_1 a0_1.length c_a0_1]) Try.isAgg37 Try.sizeOf37 rfl rfl (row_cells (S102.get (k := 0) rfl))) ?_
 obtain ⟨x104, h105, hd106⟩ := bnd_some hd
 refine AO.c rfl (o_call (vs := [.agg [.int .i64 a0_0, .slice p_a0_1 a0_1.length c_a0_1].toArray, .func (.func 69) #[] #[]]) rfl Try.call68 (W_impl_scheduleCode fu G100 a0_0 p_a0_1 c_a0_1 a0_1 a_a0_1 (S102.view v_a0_1) 69 #[] #[] (fun _ => D_impl_always fu ) Try.call69 (fun G' hG  b' hb' => W_impl_always fu G'  b' hb') x104 h105)) ?_
 refine AO.p rfl (p_assign rfl) ?_
 refine AO.nil ?_
 refine AX.seq ?_
 refine AX.region ?_
 refine AO.p rfl (p_move rfl) ?_
 refine AO.p rfl (p_neq rfl rfl) ?_
 refine AO.nil ?_
 refine AX.cond rfl (fun c108 => ?_) (fun c108 => ?_)
 ·have hd109 := bif_t c108 hd106
  refine AX.seq ?_
  refine AX.region ?_
  refine AO.p rfl (p_move rfl) ?_
  refine AO.p rfl (p_assign rfl) ?_
  refine AO.p rfl (p_assign rfl) ?_
  refine AO.nil ?_
  refine AX.ret ?_
  obtain ⟨rfl, rfl⟩ := Prod.mk.inj (some_inj hd109)
  have S111 : St [] H G100 (tseg [] :: _) := S102.nilseg 0
  have S112 : St [] H G100 (oseg none (tcells []) :: _) := S111.nilseg 0
  have S113 := S112.keep 2
  exact ⟨.inr rfl, _, res2 rfl (rv_tmp rfl) (rv_tmp rfl), none, 0, [], rfl, S113, Sb.nil, rfl, TSb.nil⟩
 ·have hd114 := bif_f c108 hd106
  refine AX.skip ?_
  refine AX.seq ?_
  refine AX.region ?_
  obtain ⟨G115, i116, hii116, hHG115, S117⟩ := S102.new (AObj.row false (tcells []))
  have S117t := S117.nilseg 1
  refine AO.c rfl (s_build0 (i := i116) Try.underlying43 Try.sizeOf58 hii116 hHG115) ?_
  refine AO.p rfl (p_assign rfl) ?_
  refine AO.nil ?_
  refine AX.seq ?_
  refine AX.seq ?_
  refine AX.region ?_
  refine AO.p rfl (s_fieldAddr Try.underlying37 rfl Try.sizeOf35 (by decide) rfl rfl) ?_
  refine AO.c rfl (s_load Try.isAgg35 rfl (row_cell (S117t.get (k := 2) rfl) rfl)) ?_
  refine AO.p rfl (p_len_slice rfl Try.underlying35) ?_
  refine AO.p rfl (p_move rfl) ?_
  refine AO.nil ?_
  obtain ⟨r854, hl855, hd856⟩ := bnd_some hd114
  refine AX.cutS (fun t' H' => ∃ (rs852 : List (List Int)) (p850 : Option Addr) (c851 : Nat) (T853 : Tb), rs852 = r854 ∧ St [] H H' [oseg p850 (tcells T853), tseg T853] ∧ trows T853 = rs852 ∧ TSb T853 ∧ Sb p850 (rs852.length) c851 1 ∧ Am.Sub [(5, .slice p850 rs852.length c851)] t') ?_ ?_
  ·refine AX.block ?_
   refine AX.loopF (fun s' t' H' => ∃ (rs608 : List (List Int)) (x610 : Int) (p606 : Option Addr) (c607 : Nat) (T609 : Tb), (rs608, x610) = s' ∧ St [] H H' [[(i101, AObj.row false ([.int .i64 a0_0, .slice p_a0_1 a0_1.length c_a0_1]))], oseg p606 (tcells T609), tseg T609] ∧ trows T609 = rs608 ∧ TSb T609 ∧ Sb p606 (rs608.length) c607 1 ∧ Am.Sub [(1, .pointer (some ⟨i101, 0, none⟩)), (5, .slice p606 rs608.length c607), (17, .slice p_a0_1 a0_1.length c_a0_1), (18, .int .i64 ((a0_1.length : Nat) : Int)), (19, .int .i64 x610)] t') hl855 ?_ ?_
   ·skip
    have S857 := S117t.front 1 rfl
    have S858 := S857.front 1 rfl
    have S859 := S858.front 2 rfl
    exact ⟨[], 0, (some (Addr.mk i116 0 none)), 0, [], rfl, S859, rfl, TSb.nil, (Sb.lit (n := 0) (by decide)), Sub.cons' rfl rfl (Sub.cons' rfl rfl (Sub.cons' rfl rfl (Sub.cons' rfl rfl (Sub.cons' rfl rfl (Sub.nil _)))))⟩
   ·rintro n860 _ t' G864 ⟨rs608, x610, p606, c607, T609, rfl, S863, tT609, sT609, Bo605, hsub865⟩ o866 ho861 hk862
    refine AX.sub hsub865 ?_
    unfold D_impl_TypesOf_s0 at ho861
    refine AX.seq ?_
    refine AX.region ?_
    refine AO.p rfl (p_lss rfl rfl) ?_
    refine AO.nil ?_
    refine AX.seq ?_
    refine AX.cond rfl (fun c867 => ?_) (fun c867 => ?_)
    ·have hd868 := bif_t c867 ho861
     refine AX.skip ?_
     refine AX.seq ?_
     refine AX.block ?_
     refine AX.seq ?_
     refine AX.region ?_
     refine AO.p rfl (p_move rfl) ?_
     obtain ⟨k869, hd870⟩ := chk_some hd868
     refine AO.p rfl (s_indexV (q := off p_a0_1 + x610.toNat * 14) Try.underlying35 Try.sizeOf54 rfl ((S863.view v_a0_1).rowne a_a0_1 (by decide) (lt_len rfl (inR_lt k869))) rfl k869 rfl) ?_
     refine AO.c rfl (s_loadN (vs := ints (rw_ a0_1 x610.toNat)) Try.isAgg54 Try.sizeOf54 rfl (ints_len (rw_len a_a0_1 (lt_len rfl (inR_lt k869)))) ((S863.view v_a0_1).row a_a0_1 (lt_len rfl (inR_lt k869)))) ?_
     obtain ⟨G871, i872, hii872, hHG871, S873⟩ := S863.new (AObj.row false (ints (List.replicate 14 0)))
     refine AO.c rfl (s_alloc (i := i872) (cs := ints (List.replicate 14 0)) Try.zeroValue54 rfl rfl hii872 hHG871) ?_
     refine AO.p rfl (p_assign rfl) ?_
     obtain ⟨G875, hHG875, S876⟩ := S873.set (k := 0) (i := i872) rfl (AObj.row false (ints (rw_ a0_1 x610.toNat)))
     refine AO.s (s_storeAll (vs := ints (rw_ a0_1 x610.toNat)) Try.sizeOf54 rfl rfl ints_one (S873.get (k := 0) rfl) (ints_len (rw_len a_a0_1 (lt_len rfl (inR_lt k869)))) (ints_len len_rep) hHG875) ?_
     refine AO.nil ?_
     refine AX.seq ?_
     refine AX.region ?_
     refine AO.p rfl (s_fieldAddr Try.underlying37 rfl Try.sizeOf35 (by decide) rfl rfl) ?_
     refine AO.c rfl (s_load Try.isAgg35 rfl (row_cell (S876.get (k := 1) rfl) rfl)) ?_
     refine AO.p rfl (p_move rfl) ?_
     obtain ⟨k877, hd878⟩ := chk_some hd870
     refine AO.p rfl (p_addE rfl rfl k877) ?_
     obtain ⟨k879, hd880⟩ := chk_some hd878
     have vw881 := Vw.dropR (c' := subc c_a0_1 a0_1.length ((x610 + 1).toNat)) (l := (x610 + 1).toNat) v_a0_1 a_a0_1 (by decide) (z_le k879.2.1) k879.2.2
     refine AO.p rfl (p_subl (m := 14) Try.underlying35 Try.sizeOf54 rfl (Vw.rowne v_a0_1 a_a0_1 (by decide) k879.2.2) rfl k879 u_a0_1) ?_
     refine AO.p rfl (p_len_slice rfl Try.underlying35) ?_
     refine AO.p rfl (p_move rfl) ?_
     refine AO.nil ?_
     obtain ⟨r1033, hl1034, hd1035⟩ := bnd_some hd880
     refine AX.cutS (fun t' H' => ∃ (rs1031 : List (List Int)) (p1029 : Option Addr) (c1030 : Nat) (T1032 : Tb), rs1031 = r1033 ∧ St [] H H' [[(i101, AObj.row false ([.int .i64 a0_0, .slice p_a0_1 a0_1.length c_a0_1]))], oseg p1029 (tcells T1032), tseg T1032] ∧ trows T1032 = rs1031 ∧ TSb T1032 ∧ Sb p1029 (rs1031.length) c1030 1 ∧ Am.Sub [(1, .pointer (some ⟨i101, 0, none⟩)), (5, .slice p1029 rs1031.length c1030), (17, .slice p_a0_1 a0_1.length c_a0_1), (18, .int .i64 ((a0_1.length : Nat) : Int)), (19, .int .i64 x610)] t') ?_ ?_
     ·refine AX.block ?_
      refine AX.loopF (fun s' t' H' => ∃ (rs981 : List (List Int)) (x984 : Int) (p979 : Option Addr) (c980 : Nat) (T982 : Tb), (rs981, x984) = s' ∧ St [] H H' [[(i101, AObj.row false ([.int .i64 a0_0, .slice p_a0_1 a0_1.length c_a0_1]))], oseg p979 (tcells T982), tseg T982, [(i872, AObj.row false (ints (rw_ a0_1 x610.toNat)))]] ∧ trows T982 = rs981 ∧ TSb T982 ∧ Sb p979 (rs981.length) c980 1 ∧ Am.Sub [(1, .pointer (some ⟨i101, 0, none⟩)), (5, .slice p979 rs981.length c980), (7, .pointer (some ⟨i872, 0, none⟩)), (17, .slice p_a0_1 a0_1.length c_a0_1), (18, .int .i64 ((a0_1.length : Nat) : Int)), (19, .int .i64 x610), (28, .slice (some (Addr.mk (blk p_a0_1) (off p_a0_1 + ((x610 + 1).toNat) * 14) none)) (a0_1.length - ((x610 + 1).toNat)) (subc c_a0_1 a0_1.length ((x610 + 1).toNat))), (29, .int .i64 (((a0_1.length - ((x610 + 1).toNat)) : Nat) : Int)), (30, .int .i64 x984)] t') hl1034 ?_ ?_
      ·skip
       have S1036 := S876.front 0 rfl
       have S1037 := S1036.front 3 rfl
       have S1038 := S1037.front 3 rfl
       have S1039 := S1038.front 3 rfl
       exact ⟨rs608, 0, p606, c607, T609, rfl, S1039, tT609, sT609, Bo605, Sub.cons' rfl rfl (Sub.cons' rfl rfl (Sub.cons' rfl rfl (Sub.cons' rfl rfl (Sub.cons' rfl rfl (Sub.cons' rfl rfl (Sub.cons' rfl rfl (Sub.cons' rfl rfl (Sub.cons' rfl rfl (Sub.nil _)))))))))⟩
      ·rintro n1040 _ t' G1044 ⟨rs981, x984, p979, c980, T982, rfl, S1043, tT982, sT982, Bo978, hsub1045⟩ o1046 ho1041 hk1042
       refine AX.sub hsub1045 ?_
       unfold D_impl_TypesOf_s1 at ho1041
       refine AX.seq ?_
       refine AX.region ?_
       refine AO.p rfl (p_lss rfl rfl) ?_
       refine AO.nil ?_
       refine AX.seq ?_
       refine AX.cond rfl (fun c1047 => ?_) (fun c1047 => ?_)
       ·have hd1048 := bif_t c1047 ho1041
        refine AX.skip ?_
        refine AX.seq ?_
        refine AX.block ?_
        refine AX.seq ?_
        refine AX.region ?_
        obtain ⟨k1049, hd1050⟩ := chk_some hd1048
        refine AO.p rfl (s_indexV (q := off (some (Addr.mk (blk p_a0_1) (off p_a0_1 + ((x610 + 1).toNat) * 14) none)) + x984.toNat * 14) Try.underlying35 Try.sizeOf54 rfl ((S1043.view vw881).rowne (all_drop a_a0_1) (by decide) (lt_len List.length_drop (inR_lt k1049))) rfl k1049 rfl) ?_
        refine AO.c rfl (s_loadN (vs := ints (rw_ (a0_1.drop ((x610 + 1).toNat)) x984.toNat)) Try.isAgg54 Try.sizeOf54 rfl (ints_len (rw_len (all_drop a_a0_1) (lt_len List.length_drop (inR_lt k1049)))) ((S1043.view vw881).row (all_drop a_a0_1) (lt_len List.length_drop (inR_lt k1049)))) ?_
        obtain ⟨G1051, i1052, hii1052, hHG1051, S1053⟩ := S1043.new (AObj.row false (ints (List.replicate 14 0)))
        refine AO.c rfl (s_alloc (i := i1052) (cs := ints (List.replicate 14 0)) Try.zeroValue54 rfl rfl hii1052 hHG1051) ?_
        obtain ⟨G1055, hHG1055, S1056⟩ := S1053.set (k := 0) (i := i1052) rfl (AObj.row false (ints (rw_ (a0_1.drop ((x610 + 1).toNat)) x984.toNat)))
        refine AO.s (s_storeAll (vs := ints (rw_ (a0_1.drop ((x610 + 1).toNat)) x984.toNat)) Try.sizeOf54 rfl rfl ints_one (S1053.get (k := 0) rfl) (ints_len (rw_len (all_drop a_a0_1) (lt_len List.length_drop (inR_lt k1049)))) (ints_len len_rep) hHG1055) ?_
        refine AO.nil ?_
        refine AX.region ?_
        refine AO.p rfl (p_move rfl) ?_
        refine AO.p rfl (s_fieldAddr Try.underlying37 rfl Try.sizeOf2 (by decide) rfl rfl) ?_
        refine AO.c rfl (s_load Try.isAgg2 rfl (row_cell (S1056.get (k := 1) rfl) rfl)) ?_
        refine AO.c rfl (s_loadN (vs := ints (rw_ a0_1 x610.toNat)) Try.isAgg54 Try.sizeOf54 rfl (ints_len (rw_len a_a0_1 (lt_len rfl (inR_lt k869)))) (row_cells (S1056.get (k := 4) rfl))) ?_
        refine AO.c rfl (s_loadN (vs := ints (rw_ (a0_1.drop ((x610 + 1).toNat)) x984.toNat)) Try.isAgg54 Try.sizeOf54 rfl (ints_len (rw_len (all_drop a_a0_1) (lt_len List.length_drop (inR_lt k1049)))) (row_cells (S1056.get (k := 0) rfl))) ?_
        obtain ⟨xs1057, h1058, hd1059⟩ := bnd_some hd1050
        obtain ⟨_, G1065, hc1064, p1060, c1061, rfl, S1066, B1063⟩ := W_impl_kind fu G1055 a0_0 (rw_ a0_1 x610.toNat) (rw_len a_a0_1 (lt_len rfl (inR_lt k869))) (rw_ (a0_1.drop ((x610 + 1).toNat)) x984.toNat) (rw_len (all_drop a_a0_1) (lt_len List.length_drop (inR_lt k1049))) xs1057 h1058
        have S1067 := S1056.call S1066
        refine AO.c rfl (o_call (vs := [.int .i64 a0_0, .agg (ints (rw_ a0_1 x610.toNat)).toArray, .agg (ints (rw_ (a0_1.drop ((x610 + 1).toNat)) x984.toNat)).toArray]) rfl Try.call100 hc1064) ?_
        obtain ⟨G1068, i1069, hii1069, hHG1068, S1070⟩ := S1067.new (AObj.row false (tcells [(p1060, c1061, xs1057)]))
        have S1072 := (S1070.front 1 rfl).tone p1060 c1061 xs1057 rfl
        refine AO.c rfl (s_buildT1 (i := i1069) (X := [(p1060, c1061, xs1057)]) (n := xs1057.length) rfl Try.underlying43 Try.sizeOf58 Try.zeroValue58 rfl rfl hii1069 hHG1068) ?_
        obtain ⟨k1073, hd1074⟩ := chk_some hd1059
        obtain ⟨p1075, c1076, G1077, haG1077, S1078, Bp1075⟩ := S1072.app (k := 4) rfl Bo978 (tcells [(p1060, c1061, xs1057)]) 1 (tc_len1 rfl rfl)
        have S1079 := S1078.cellsEq (k := 4) (us' := tcells (T982 ++ [(p1060, c1061, xs1057)])) (tcells_app _ _).symm rfl
        have BS1079 : Sb p1075 ((rs981 ++ [xs1057]).length) c1076 1 := (show rs981.length + 1 = (rs981 ++ [xs1057]).length from len_app (a := rs981) (b := [xs1057]) rfl rfl) ▸ Bp1075
        have S1080 := S1079.front 0 rfl
        have S1081 := (S1080.front 5 rfl).tmerge
        have S1082 := S1081.drop 1 rfl
        refine AO.c rfl (s_app (by_ := 24) (us := tcells T982) (vs := tcells [(p1060, c1061, xs1057)]) Try.underlying43 Try.underlying43 Try.typeInfo58 Try.sizeOf58 Try.zeroValue58 rfl rfl rfl rfl rfl rfl rfl (S1072.buf (k := 4) rfl Bo978 (tc_len1 tT982 rfl)) (S1072.oview (k := 1) rfl (Sb.lit (n := 1) (by decide)) (tc_len1 rfl rfl)) (tc_len1 rfl rfl) tcells_one k1073 haG1077 (show rs981.length + 1 = (rs981 ++ [xs1057]).length from len_app (a := rs981) (b := [xs1057]) rfl rfl)) ?_
        refine AO.p rfl (p_assign rfl) ?_
        refine AO.nil ?_
        refine AX.region ?_
        obtain ⟨k1083, hd1084⟩ := chk_some hd1074
        refine AO.p rfl (p_addE rfl rfl k1083) ?_
        refine AO.p rfl (p_move rfl) ?_
        refine AO.nil ?_
        obtain rfl := some_inj hd1084
        have S1086 := S1082.front 4 rfl
        have S1087 := S1086.front 1 rfl
        have S1088 := S1087.front 4 rfl
        have S1089 := S1088.front 4 rfl
        have S1090 := S1089.keep 4
        exact ⟨((rs981 ++ [xs1057]), x984 + 1), hk1042, (rs981 ++ [xs1057]), (x984 + 1), p1075, c1076, (T982 ++ [(p1060, c1061, xs1057)]), rfl, S1090, (trows_apps tT982 rfl), (TSb.app sT982 (TSb.one (sb_len rfl B1063))), BS1079, Sub.cons' rfl rfl (Sub.cons' rfl rfl (Sub.cons' rfl rfl (Sub.cons' rfl rfl (Sub.cons' rfl rfl (Sub.cons' rfl rfl (Sub.cons' rfl rfl (Sub.cons' rfl rfl (Sub.cons' rfl rfl (Sub.nil _)))))))))⟩
       ·have hd1091 := bif_f c1047 ho1041
        refine AX.exit ?_
        obtain rfl := some_inj hd1091
        have S1092 := S1043.front 2 rfl
        have S1093 := S1092.front 2 rfl
        have S1094 := S1093.front 2 rfl
        have S1095 := S1094.keep 3
        exact ⟨rs981, p979, c980, T982, hk1042, S1095, tT982, sT982, Bo978, Sub.cons' rfl rfl (Sub.cons' rfl rfl (Sub.cons' rfl rfl (Sub.cons' rfl rfl (Sub.cons' rfl rfl (Sub.nil _)))))⟩
     ·rintro t' G1097 ⟨rs1031, p1029, c1030, T1032, rfl, S1096, tT1032, sT1032, Bo1028, hsub1098⟩
      refine ⟨_, hsub1098, ?_⟩
      refine AX.region ?_
      obtain ⟨k1099, hd1100⟩ := chk_some hd1035
      refine AO.p rfl (p_addE rfl rfl k1099) ?_
      refine AO.p rfl (p_move rfl) ?_
      refine AO.nil ?_
      obtain rfl := some_inj hd1100
      have S1102 := S1096.front 2 rfl
      have S1103 := S1102.front 2 rfl
      have S1104 := S1103.front 2 rfl
      exact ⟨(rs1031, x610 + 1), hk862, rs1031, (x610 + 1), p1029, c1030, T1032, rfl, S1104, tT1032, sT1032, Bo1028, Sub.cons' rfl rfl (Sub.cons' rfl rfl (Sub.cons' rfl rfl (Sub.cons' rfl rfl (Sub.cons' rfl rfl (Sub.nil _)))))⟩
    ·have hd1105 := bif_f c867 ho861
     refine AX.exit ?_
     obtain rfl := some_inj hd1105
     have S1106 := S863.front 2 rfl
     have S1107 := S1106.front 2 rfl
     have S1108 := S1107.keep 2
     exact ⟨rs608, p606, c607, T609, hk862, S1108, tT609, sT609, Bo605, Sub.cons' rfl rfl (Sub.nil _)⟩
  ·rintro t' G1110 ⟨rs852, p850, c851, T853, rfl, S1109, tT853, sT853, Bo849, hsub1111⟩
   refine ⟨_, hsub1111, ?_⟩
   refine AX.seq ?_
   refine AX.region ?_
   refine AO.p rfl (p_move rfl) ?_
   refine AO.p rfl (p_assign rfl) ?_
   refine AO.p rfl (p_assign rfl) ?_
   refine AO.nil ?_
   refine AX.ret ?_
   obtain ⟨rfl, rfl⟩ := Prod.mk.inj (some_inj hd856)
   have S1113 := S1109.front 1 rfl
   have S1114 := S1113.front 1 rfl
   exact ⟨.inr rfl, _, res2 rfl (rv_tmp rfl) (rv_tmp rfl), p850, c851, T853, rfl, S1114, Bo849, tT853, sT853⟩

set_option maxHeartbeats 4000000 in
theorem W_spec_IsPerfect (fu : Nat) (H : AHeap) (a0_0 : Int) (p_a0_1 : Option Addr) (c_a0_1 : Nat) (a0_1 : List (List Int)) (a_a0_1 : All 14 a0_1) (v_a0_1 : Vw H p_a0_1 a0_1.length c_a0_1 (ints a0_1.flatten)) (r0 : Bool) (r1 : Int) (hd : D_spec_IsPerfect fu a0_0 a0_1 = some (r0, r1)) : ACall Try.prog 45 [.agg [.int .i64 a0_0, .slice p_a0_1 a0_1.length c_a0_1].toArray] H (.tuple #[.bool r0, .int .i64 r1]) H := by
 refine ACall.bodyP (N := 36) [(0, .agg [.int .i64 a0_0, .slice p_a0_1 a0_1.length c_a0_1].toArray)] Try.func45 rfl rfl rfl rfl ?_
 unfold D_spec_IsPerfect at hd
 have S0 : St [] H H [] := St.nil H
 refine AX.seq ?_
 refine AX.region ?_
 obtain ⟨G100, i101, hii101, hHG100, S102⟩ := S0.new (AObj.row false ([.int .i64 a0_0, .slice p_a0_1 a0_1.length c_a0_1]))
 refine AO.c rfl (s_box (i := i101) (cs := [.int .i64 a0_0, .slice p_a0_1 a0_1.length c_a0_1]) rfl hii101 rfl hHG100) ?_
 refine AO.p rfl (p_assign rfl) ?_
 refine AO.p rfl (p_assign rfl) ?_
 refine AO.nil ?_
 refine AX.seq ?_
 refine AX.seq ?_
 refine AX.region ?_
 refine AO.c rfl (s_loadN (vs := [.int .i64 a0_0, .slice p_a0_1 a0_1.length c_a0_1]) Try.isAgg37 Try.sizeOf37 rfl rfl (row_cells (S102.get (k := 0) rfl))) ?_
 obtain ⟨b104, h105, hd106⟩ := bnd_some hd
 refine AO.c rfl (o_call (vs := [.agg [.int .i64 a0_0, .slice p_a0_1 a0_1.length c_a0_1].toArray]) rfl Try.call63 (W_spec_l01Is fu G100 a0_0 p_a0_1 c_a0_1 a0_1 a_a0_1 (S102.view v_a0_1) b104 h105)) ?_
 refine AO.p rfl (p_not rfl) ?_
 refine AO.nil ?_
 refine AX.cond rfl (fun c108 => ?_) (fun c108 => ?_)
 ·have hd109 := bif_t c108 hd106
  refine AX.seq ?_
  refine AX.region ?_
  refine AO.p rfl (p_assign rfl) ?_
  refine AO.p rfl (p_assign rfl) ?_
  refine AO.nil ?_
  refine AX.ret ?_
  obtain ⟨rfl, rfl⟩ := Prod.mk.inj (some_inj hd109)
  exact ⟨.inr rfl, _, res2 rfl (rv_tmp rfl) (rv_tmp rfl), rfl, (flat_t2 (flatB_ok rfl) (flatB_ok rfl)), S102.hold⟩
 ·have hd111 := bif_f c108 hd106
  refine AX.skip ?_
  refine AX.seq ?_
  refine AX.seq ?_
  refine AX.region ?_
  refine AO.p rfl (p_assign rfl) ?_
  refine AO.nil ?_
  obtain ⟨r570, hl571, hd572⟩ := bnd_some hd111
  refine AX.cutS (fun t' H' => .inl () = r570 ∧ St [] H H' [] ∧ Am.Sub [] t') ?_ ?_
  ·refine AX.block ?_
   refine AX.loopF (fun s' t' H' => ∃ (x418 : Int), x418 = s' ∧ St [] H H' [[(i101, AObj.row false ([.int .i64 a0_0, .slice p_a0_1 a0_1.length c_a0_1]))]] ∧ Am.Sub [(1, .pointer (some ⟨i101, 0, none⟩)), (4, .int .i64 x418)] t') hl571 ?_ ?_
   ·skip
    have S573 := S102.front 0 rfl
    exact ⟨0, rfl, S573, Sub.cons' rfl rfl (Sub.cons' rfl rfl (Sub.nil _))⟩
   ·rintro n574 _ t' G578 ⟨x418, rfl, S577, hsub579⟩ o580 ho575 hk576
    refine AX.sub hsub579 ?_
    unfold D_spec_IsPerfect_s0 at ho575
    refine AX.seq ?_
    refine AX.seq ?_
    refine AX.region ?_
    refine AO.p rfl (p_move rfl) ?_
    refine AO.p rfl (s_fieldAddr Try.underlying37 rfl Try.sizeOf35 (by decide) rfl rfl) ?_
    refine AO.c rfl (s_load Try.isAgg35 rfl (row_cell (S577.get (k := 0) rfl) rfl)) ?_
    refine AO.p rfl (p_len_slice rfl Try.underlying35) ?_
    refine AO.p rfl (p_lss rfl rfl) ?_
    refine AO.nil ?_
    refine AX.cond rfl (fun c581 => ?_) (fun c581 => ?_)
    ·have hd582 := bif_t c581 ho575
     refine AX.skip ?_
     refine AX.seq ?_
     refine AX.block ?_
     refine AX.seq ?_
     refine AX.region ?_
     refine AO.p rfl (p_assign rfl) ?_
     refine AO.nil ?_
     obtain ⟨r682, hl683, hd684⟩ := bnd_some hd582
     refine AX.cutS (fun t' H' => .inl () = r682 ∧ St [] H H' [[(i101, AObj.row false ([.int .i64 a0_0, .slice p_a0_1 a0_1.length c_a0_1]))]] ∧ Am.Sub [(1, .pointer (some ⟨i101, 0, none⟩)), (4, .int .i64 x418)] t') ?_ ?_
     ·refine AX.block ?_
      refine AX.loopF (fun s' t' H' => ∃ (x649 : Int), x649 = s' ∧ St [] H H' [[(i101, AObj.row false ([.int .i64 a0_0, .slice p_a0_1 a0_1.length c_a0_1]))]] ∧ Am.Sub [(1, .pointer (some ⟨i101, 0, none⟩)), (4, .int .i64 x418), (5, .int .i64 x649)] t') hl683 ?_ ?_
      ·skip
       have S685 := S577.front 0 rfl
       exact ⟨0, rfl, S685, Sub.cons' rfl rfl (Sub.cons' rfl rfl (Sub.cons' rfl rfl (Sub.nil _)))⟩
      ·rintro n686 _ t' G690 ⟨x649, rfl, S689, hsub691⟩ o692 ho687 hk688
       refine AX.sub hsub691 ?_
       unfold D_spec_IsPerfect_s1 at ho687
       refine AX.seq ?_
       refine AX.seq ?_
       refine AX.region ?_
       refine AO.p rfl (p_move rfl) ?_
       refine AO.p rfl (p_move rfl) ?_
       refine AO.p rfl (p_lss rfl rfl) ?_
       refine AO.nil ?_
       refine AX.cond rfl (fun c693 => ?_) (fun c693 => ?_)
       ·have hd694 := bif_t c693 ho687
        refine AX.skip ?_
        refine AX.seq ?_
        refine AX.block ?_
        refine AX.seq ?_
        refine DR.startS [false, false, false, false, false, false, false, false, false, false, false, false, true, false, false] mix (by kernel_rfl) (fun hst => ?_)
        refine DR.p rfl rfl (s_fieldAddr Try.underlying37 rfl Try.sizeOf2 (by decide) rfl rfl) ?_
        refine DR.r rfl rfl (r_load rfl Try.isAgg2) (one_read (row_cell (S689.get (k := 0) rfl) rfl) (.of_flat0 rfl)) ?_
        refine DR.p rfl rfl (s_fieldAddr Try.underlying37 rfl Try.sizeOf35 (by decide) rfl rfl) ?_
        refine DR.r rfl rfl (r_load rfl Try.isAgg35) (one_read (row_cell (S689.get (k := 0) rfl) rfl) (S689.view v_a0_1).inn.bel) ?_
        refine DR.p rfl rfl (p_move rfl) ?_
        obtain ⟨k695, hd696⟩ := chk_some hd694
        refine DR.p rfl rfl (s_indexV (q := off p_a0_1 + x649.toNat * 14) Try.underlying35 Try.sizeOf54 rfl ((S689.view v_a0_1).rowne a_a0_1 (by decide) (lt_len rfl (inR_lt k695))) rfl k695 rfl) ?_
        refine DR.r rfl rfl (r_loadN (vs := ints (rw_ a0_1 x649.toNat)) rfl Try.isAgg54 Try.sizeOf54 (ints_len (rw_len a_a0_1 (lt_len rfl (inR_lt k695))))) (many_row ((S689.view v_a0_1).row a_a0_1 (lt_len rfl (inR_lt k695))) bel_ints) ?_
        refine DR.p rfl rfl (s_fieldAddr Try.underlying37 rfl Try.sizeOf35 (by decide) rfl rfl) ?_
        refine DR.r rfl rfl (r_load rfl Try.isAgg35) (one_read (row_cell (S689.get (k := 0) rfl) rfl) (S689.view v_a0_1).inn.bel) ?_
        refine DR.p rfl rfl (p_move rfl) ?_
        obtain ⟨k697, hd698⟩ := chk_some hd696
        refine DR.p rfl rfl (s_indexV (q := off p_a0_1 + x418.toNat * 14) Try.underlying35 Try.sizeOf54 rfl ((S689.view v_a0_1).rowne a_a0_1 (by decide) (lt_len rfl (inR_lt k697))) rfl k697 rfl) ?_
        refine DR.r rfl rfl (r_loadN (vs := ints (rw_ a0_1 x418.toNat)) rfl Try.isAgg54 Try.sizeOf54 (ints_len (rw_len a_a0_1 (lt_len rfl (inR_lt k697))))) (many_row ((S689.view v_a0_1).row a_a0_1 (lt_len rfl (inR_lt k697))) bel_ints) ?_
        obtain ⟨rs699, h700, hd701⟩ := bnd_some hd698
        obtain ⟨_, G710, hc709, p702, c703, T706, rfl, S711, B705, t707, s708⟩ := W_spec_l02Components fu G690 a0_0 (rw_ a0_1 x649.toNat) (rw_len a_a0_1 (lt_len rfl (inR_lt k695))) (rw_ a0_1 x418.toNat) (rw_len a_a0_1 (lt_len rfl (inR_lt k697))) rs699 h700
        have S712 := S689.call S711
        refine DR.w rfl rfl (o_call (vs := [.int .i64 a0_0, .agg (ints (rw_ a0_1 x649.toNat)).toArray, .agg (ints (rw_ a0_1 x418.toNat)).toArray]) rfl Try.call99 hc709) (S711.len) ?_
        refine DR.p rfl rfl (p_len_slice rfl Try.underlying43) ?_
        refine DR.p rfl rfl (p_neq rfl rfl) ?_
        refine DR.nil 15 [] hst (by kernel_rfl) trivial ?_
        refine AX.cond rfl (fun c713 => ?_) (fun c713 => ?_)
        ·have hd714 := bif_t c713 hd701
         refine AX.seq ?_
         refine AX.region ?_
         refine AO.p rfl (p_assign rfl) ?_
         refine AO.p rfl (p_assign rfl) ?_
         refine AO.nil ?_
         refine AX.ret ?_
         obtain rfl := some_inj hd714
         have z715 : _ = r682 := hk688
         subst z715
         obtain rfl := some_inj hd684
         have z716 : _ = r570 := hk576
         subst z716
         obtain ⟨rfl, rfl⟩ := Prod.mk.inj (some_inj hd572)
         exact ⟨.inr rfl, _, res2 rfl (rv_tmp rfl) (rv_tmp rfl), rfl, (flat_t2 (flatB_ok rfl) (flatB_ok rfl)), S712.hold⟩
        ·have hd718 := bif_f c713 hd701
         refine AX.skip ?_
         refine AX.region ?_
         refine AO.p rfl (p_move rfl) ?_
         obtain ⟨k719, hd720⟩ := chk_some hd718
         refine AO.p rfl (p_addE rfl rfl k719) ?_
         refine AO.p rfl (p_assign rfl) ?_
         refine AO.nil ?_
         obtain rfl := some_inj hd720
         have S722 := S712.front 2 rfl
         have S723 := S722.keep 1
         exact ⟨x649 + 1, hk688, (x649 + 1), rfl, S723, Sub.cons' rfl rfl (Sub.cons' rfl rfl (Sub.cons' rfl rfl (Sub.nil _)))⟩
       ·have hd724 := bif_f c693 ho687
        refine AX.exit ?_
        obtain rfl := some_inj hd724
        have S725 := S689.front 0 rfl
        exact ⟨hk688, S725, Sub.cons' rfl rfl (Sub.cons' rfl rfl (Sub.nil _))⟩
     ·rintro t' G727 ⟨rfl, S726, hsub728⟩
      refine ⟨_, hsub728, ?_⟩
      refine AX.region ?_
      refine AO.p rfl (p_move rfl) ?_
      obtain ⟨k729, hd730⟩ := chk_some hd684
      refine AO.p rfl (p_addE rfl rfl k729) ?_
      refine AO.p rfl (p_assign rfl) ?_
      refine AO.nil ?_
      obtain rfl := some_inj hd730
      have S732 := S726.front 0 rfl
      exact ⟨x418 + 1, hk576, (x418 + 1), rfl, S732, Sub.cons' rfl rfl (Sub.cons' rfl rfl (Sub.nil _))⟩
    ·have hd734 := bif_f c581 ho575
     refine AX.exit ?_
     obtain rfl := some_inj hd734
     have S735 := S577.keep 0
     exact ⟨hk576, S735, Sub.nil _⟩
  ·rintro t' G737 ⟨rfl, S736, hsub738⟩
   refine ⟨_, hsub738, ?_⟩
   refine AX.seq ?_
   refine AX.region ?_
   refine AO.p rfl (p_assign rfl) ?_
   refine AO.p rfl (p_assign rfl) ?_
   refine AO.nil ?_
   refine AX.ret ?_
   obtain ⟨rfl, rfl⟩ := Prod.mk.inj (some_inj hd572)
   exact ⟨.inr rfl, _, res2 rfl (rv_tmp rfl) (rv_tmp rfl), rfl, (flat_t2 (flatB_ok rfl) (flatB_ok rfl)), S736.hold⟩

set_option maxHeartbeats 4000000 in
theorem W_slices_IndexFunc_SSint64_Sint64 (fu : Nat) (H : AHeap) (p_a0 : Option Addr) (c_a0 : Nat) (T_a0 : Tb) (a0 : List (List Int)) (t_a0 : trows T_a0 = a0) (v_a0 : Vw H p_a0 a0.length c_a0 (tcells T_a0)) (w_a0 : TVw H T_a0) (f_a1 : FuncId) (fs_a1 cs_a1 : Array Value) (a1 : (List Int) → Option Bool) (hc_a1 : ∀ args w, (callFunc f_a1 args).run Try.prog w = .ok (.enter f_a1 args) w) (hq_a1 : ∀ H', ExtG H H' → ∀ (p_x0_a1 : Option Addr) (c_x0_a1 : Nat) (x0_a1 : List Int) (v_x0_a1 : Vw H' p_x0_a1 x0_a1.length c_x0_a1 (ints x0_a1)) (b : Bool), a1 x0_a1 = some b → ACall Try.prog f_a1 (fs_a1.toList ++ [.slice p_x0_a1 x0_a1.length c_x0_a1] ++ cs_a1.toList) H' (.bool b) H') (r0 : Int) (hd : D_slices_IndexFunc_SSint64_Sint64 fu a0 a1 = some r0) : ACall Try.prog 146 [.slice p_a0 a0.length c_a0, .func (.func f_a1) fs_a1 cs_a1] H (.int .i64 r0) H := by
 refine ACall.bodyP (N := 19) [(0, .slice p_a0 a0.length c_a0), (1, .func (.func f_a1) fs_a1 cs_a1)] Try.func146 rfl rfl rfl rfl ?_
 unfold D_slices_IndexFunc_SSint64_Sint64 at hd
 have S0 : St [] H H [] := St.nil H
 refine AX.seq ?_
 refine AX.region ?_
 refine AO.p rfl (p_assign rfl) ?_
 refine AO.nil ?_
 refine AX.seq ?_
 refine AX.seq ?_
 refine AX.region ?_
 refine AO.p rfl (p_move rfl) ?_
 refine AO.p rfl (p_len_slice rfl Try.underlying43) ?_
 refine AO.p rfl (p_move rfl) ?_
 refine AO.nil ?_
 obtain ⟨r162, hl163, hd164⟩ := bnd_some hd
 refine AX.cutS (fun t' H' => .inl () = r162 ∧ St [] H H' [] ∧ Am.Sub [] t') ?_ ?_
 ·refine AX.block ?_
  refine AX.loopF (fun s' t' H' => ∃ (x141 : Int), x141 = s' ∧ St [] H H' [] ∧ Am.Sub [(0, .slice p_a0 a0.length c_a0), (1, .func (.func f_a1) fs_a1 cs_a1), (7, .int .i64 ((a0.length : Nat) : Int)), (8, .int .i64 x141)] t') hl163 ?_ ?_
  ·skip
   exact ⟨0, rfl, S0, Sub.cons' rfl rfl (Sub.cons' rfl rfl (Sub.cons' rfl rfl (Sub.cons' rfl rfl (Sub.nil _))))⟩
  ·rintro n165 _ t' G169 ⟨x141, rfl, S168, hsub170⟩ o171 ho166 hk167
   refine AX.sub hsub170 ?_
   unfold D_slices_IndexFunc_SSint64_Sint64_s0 at ho166
   refine AX.seq ?_
   refine AX.region ?_
   refine AO.p rfl (p_lss rfl rfl) ?_
   refine AO.nil ?_
   refine AX.seq ?_
   refine AX.cond rfl (fun c172 => ?_) (fun c172 => ?_)
   ·have hd173 := bif_t c172 ho166
    refine AX.skip ?_
    refine AX.seq ?_
    refine AX.block ?_
    refine AX.seq ?_
    refine AX.region ?_
    refine AO.p rfl (p_move rfl) ?_
    refine AO.p rfl (p_assign rfl) ?_
    refine AO.nil ?_
    refine AX.seq ?_
    refine AX.region ?_
    refine AO.p rfl (p_move rfl) ?_
    refine AO.p rfl (p_move rfl) ?_
    refine AO.p rfl (p_move rfl) ?_
    obtain ⟨k174, hd175⟩ := chk_some hd173
    obtain ⟨p176, c177, e178, f179⟩ := tget t_a0 (lt_len rfl (inR_lt k174))
    refine AO.p rfl (s_indexV (q := off p_a0 + x141.toNat) Try.underlying43 Try.sizeOf58 rfl ((S168.view v_a0).p f179) rfl k174 (o1 _ _)) ?_
    refine AO.c rfl (s_load Try.isAgg58 rfl ((S168.view v_a0).get _ _ f179)) ?_
    obtain ⟨b180, h181, hd182⟩ := bnd_some hd175
    refine AO.c rfl (o_callV (vs := [.slice p176 ((rw_ a0 x141.toNat).length) c177]) rfl rfl hc_a1 (hq_a1 G169 S168.ext p176 c177 (rw_ a0 x141.toNat) (TVw.at (S168.tview w_a0) e178) b180 h181)) ?_
    refine AO.nil ?_
    refine AX.cond rfl (fun c183 => ?_) (fun c183 => ?_)
    ·have hd184 := bif_t c183 hd182
     refine AX.seq ?_
     refine AX.region ?_
     refine AO.p rfl (p_move rfl) ?_
     refine AO.p rfl (p_assign rfl) ?_
     refine AO.nil ?_
     refine AX.ret ?_
     obtain rfl := some_inj hd184
     have z185 : _ = r162 := hk167
     subst z185
     obtain rfl := some_inj hd164
     exact ⟨.inr rfl, _, res1 rfl (rv_tmp rfl), rfl, (flatB_ok rfl), S168.hold⟩
    ·have hd186 := bif_f c183 hd182
     refine AX.skip ?_
     refine AX.region ?_
     obtain ⟨k187, hd188⟩ := chk_some hd186
     refine AO.p rfl (p_addE rfl rfl k187) ?_
     refine AO.p rfl (p_move rfl) ?_
     refine AO.nil ?_
     obtain rfl := some_inj hd188
     exact ⟨x141 + 1, hk167, (x141 + 1), rfl, S168, Sub.cons' rfl rfl (Sub.cons' rfl rfl (Sub.cons' rfl rfl (Sub.cons' rfl rfl (Sub.nil _))))⟩
   ·have hd190 := bif_f c172 ho166
    refine AX.exit ?_
    obtain rfl := some_inj hd190
    exact ⟨hk167, S168, Sub.nil _⟩
 ·rintro t' G192 ⟨rfl, S191, hsub193⟩
  refine ⟨_, hsub193, ?_⟩
  refine AX.seq ?_
  refine AX.region ?_
  refine AO.p rfl (p_assign rfl) ?_
  refine AO.nil ?_
  refine AX.ret ?_
  obtain rfl := some_inj hd164
  exact ⟨.inr rfl, _, res1 rfl (rv_tmp rfl), rfl, (flatB_ok rfl), S191.hold⟩

set_option maxHeartbeats 4000000 in
theorem W_slices_ContainsFunc_SSint64_Sint64 (fu : Nat) (H : AHeap) (p_a0 : Option Addr) (c_a0 : Nat) (T_a0 : Tb) (a0 : List (List Int)) (t_a0 : trows T_a0 = a0) (v_a0 : Vw H p_a0 a0.length c_a0 (tcells T_a0)) (w_a0 : TVw H T_a0) (f_a1 : FuncId) (fs_a1 cs_a1 : Array Value) (a1 : (List Int) → Option Bool) (hc_a1 : ∀ args w, (callFunc f_a1 args).run Try.prog w = .ok (.enter f_a1 args) w) (hq_a1 : ∀ H', ExtG H H' → ∀ (p_x0_a1 : Option Addr) (c_x0_a1 : Nat) (x0_a1 : List Int) (v_x0_a1 : Vw H' p_x0_a1 x0_a1.length c_x0_a1 (ints x0_a1)) (b : Bool), a1 x0_a1 = some b → ACall Try.prog f_a1 (fs_a1.toList ++ [.slice p_x0_a1 x0_a1.length c_x0_a1] ++ cs_a1.toList) H' (.bool b) H') (r0 : Bool) (hd : D_slices_ContainsFunc_SSint64_Sint64 fu a0 a1 = some r0) : ACall Try.prog 105 [.slice p_a0 a0.length c_a0, .func (.func f_a1) fs_a1 cs_a1] H (.bool r0) H := by
 refine ACall.bodyP (N := 9) [(0, .slice p_a0 a0.length c_a0), (1, .func (.func f_a1) fs_a1 cs_a1)] Try.func105 rfl rfl rfl rfl ?_
 unfold D_slices_ContainsFunc_SSint64_Sint64 at hd
 have S0 : St [] H H [] := St.nil H
 refine AX.seq ?_
 refine AX.region ?_
 refine AO.p rfl (p_assign rfl) ?_
 refine AO.nil ?_
 refine AX.seq ?_
 refine AX.region ?_
 refine AO.p rfl (p_move rfl) ?_
 refine AO.p rfl (p_move rfl) ?_
 obtain ⟨x100, h101, hd102⟩ := bnd_some hd
 refine AO.c rfl (o_call (vs := [.slice p_a0 a0.length c_a0, .func (.func f_a1) fs_a1 cs_a1]) rfl Try.call146 (W_slices_IndexFunc_SSint64_Sint64 fu H p_a0 c_a0 T_a0 a0 t_a0 (S0.view v_a0) (S0.tview w_a0) f_a1 fs_a1 cs_a1 a1 hc_a1 (fun G' hG => hq_a1 G' (S0.ext.trans hG)) x100 h101)) ?_
 refine AO.p rfl (p_geq rfl rfl) ?_
 refine AO.p rfl (p_assign rfl) ?_
 refine AO.nil ?_
 refine AX.ret ?_
 obtain rfl := some_inj hd102
 exact ⟨.inr rfl, _, res1 rfl (rv_tmp rfl), rfl, (flatB_ok rfl), S0.hold⟩

set_option maxHeartbeats 4000000 in
theorem W_impl_IsPerfect_1 (fu : Nat) (H : AHeap) (p_a0 : Option Addr) (c_a0 : Nat) (a0 : List Int) (v_a0 : Vw H p_a0 a0.length c_a0 (ints a0)) (r0 : Bool) (hd : D_impl_IsPerfect_1 fu a0 = some r0) : ACall Try.prog 106 [.slice p_a0 a0.length c_a0] H (.bool r0) H := by
 refine ACall.bodyP (N := 6) [(0, .slice p_a0 a0.length c_a0)] Try.func106 rfl rfl rfl rfl ?_
 unfold D_impl_IsPerfect_1 at hd
 have S0 : St [] H H [] := St.nil H
 refine AX.seq ?_
 refine AX.region ?_
 refine AO.p rfl (p_assign rfl) ?_
 refine AO.nil ?_
 refine AX.seq ?_
 refine AX.region ?_
 refine AO.p rfl (p_move rfl) ?_
 refine AO.p rfl (p_len_slice rfl Try.underlying58) ?_
 refine AO.p rfl (p_gtr rfl rfl) ?_
 refine AO.p rfl (p_assign rfl) ?_
 refine AO.nil ?_
 refine AX.ret ?_
 obtain rfl := some_inj hd
 exact ⟨.inr rfl, _, res1 rfl (rv_tmp rfl), rfl, (flatB_ok rfl), S0.hold⟩

set_option maxHeartbeats 4000000 in
theorem W_impl_IsPerfect (fu : Nat) (H : AHeap) (a0_0 : Int) (p_a0_1 : Option Addr) (c_a0_1 : Nat) (a0_1 : List (List Int)) (a_a0_1 : All 14 a0_1) (v_a0_1 : Vw H p_a0_1 a0_1.length c_a0_1 (ints a0_1.flatten)) (u_a0_1 : c_a0_1 < capU ∨ c_a0_1 = capU + 14) (r0 : Bool) (r1 : Int) (hd : D_impl_IsPerfect fu a0_0 a0_1 = some (r0, r1)) : ACall Try.prog 44 [.agg [.int .i64 a0_0, .slice p_a0_1 a0_1.length c_a0_1].toArray] H (.tuple #[.bool r0, .int .i64 r1]) H := by
 refine ACall.bodyP (N := 17) [(0, .agg [.int .i64 a0_0, .slice p_a0_1 a0_1.length c_a0_1].toArray)] Try.func44 rfl rfl rfl rfl ?_
 unfold D_impl_IsPerfect at hd
 have S0 : St [] H H [] := St.nil H
 refine AX.seq ?_
 refine AX.region ?_
 obtain ⟨G100, i101, hii101, hHG100, S102⟩ := S0.new (AObj.row false ([.int .i64 a0_0, .slice p_a0_1 a0_1.length c_a0_1]))
 refine AO.c rfl (s_box (i := i101) (cs := [.int .i64 a0_0, .slice p_a0_1 a0_1.length c_a0_1]) rfl hii101 rfl hHG100) ?_
 refine AO.p rfl (p_assign rfl) ?_
 refine AO.p rfl (p_assign rfl) ?_
 refine AO.nil ?_
 refine AX.seq ?_
 refine AX.region ?_
 refine AO.c rfl (s_loadN (vs := [.int .i64 a0_0, .slice p_a0_1 a0_1.length c_a0_1]) Try.isAgg37 Try.sizeOf37 rfl rfl (row_cells (S102.get (k := 0) rfl))) ?_
 obtain ⟨⟨rs104, x105⟩, h106, hd107⟩ := bnd_some hd
 obtain ⟨_, G116, hc115, p108, c109, T112, rfl, S117, B111, t113, s114⟩ := W_impl_TypesOf fu G100 a0_0 p_a0_1 c_a0_1 a0_1 a_a0_1 (S102.view v_a0_1) u_a0_1 rs104 x105 h106
 have S118 := S102.call S117
 refine AO.c rfl (o_call (vs := [.agg [.int .i64 a0_0, .slice p_a0_1 a0_1.length c_a0_1].toArray]) rfl Try.call46 hc115) ?_
 refine AO.p rfl (p_move rfl) ?_
 refine AO.p rfl (p_extract rfl rfl) ?_
 refine AO.p rfl (p_extract rfl rfl) ?_
 refine AO.p rfl (p_assign rfl) ?_
 refine AO.p rfl (p_assign rfl) ?_
 refine AO.nil ?_
 refine AX.seq ?_
 refine AX.seq ?_
 refine AX.region ?_
 refine AO.p rfl (p_move rfl) ?_
 refine AO.p rfl (p_neq rfl rfl) ?_
 refine AO.nil ?_
 refine AX.cond rfl (fun c119 => ?_) (fun c119 => ?_)
 ·have hd120 := bif_t c119 hd107
  refine AX.seq ?_
  refine AX.region ?_
  refine AO.p rfl (p_move rfl) ?_
  refine AO.p rfl (p_assign rfl) ?_
  refine AO.p rfl (p_assign rfl) ?_
  refine AO.nil ?_
  refine AX.ret ?_
  obtain ⟨rfl, rfl⟩ := Prod.mk.inj (some_inj hd120)
  exact ⟨.inr rfl, _, res2 rfl (rv_tmp rfl) (rv_tmp rfl), rfl, (flat_t2 (flatB_ok rfl) (flatB_ok rfl)), S118.hold⟩
 ·have hd122 := bif_f c119 hd107
  refine AX.skip ?_
  refine AX.seq ?_
  refine AX.region ?_
  refine AO.p rfl (p_move rfl) ?_
  obtain ⟨b123, h124, hd125⟩ := bnd_some hd122
  refine AO.c rfl (o_call (vs := [.slice p108 rs104.length c109, .func (.func 106) #[] #[]]) rfl Try.call105 (W_slices_ContainsFunc_SSint64_Sint64 fu G116 p108 c109 T112 rs104 t113 (S118.oview (k := 0) rfl B111 (tc_len1 t113 rfl)) (S118.oviewT (k := 1) rfl s114) 106 #[] #[] (fun x0' => D_impl_IsPerfect_1 fu x0') Try.call106 (fun G' hG px0' cx0' x0' vx0' b' hb' => W_impl_IsPerfect_1 fu G' px0' cx0' x0' vx0' b' hb') b123 h124)) ?_
  refine AO.p rfl (p_not rfl) ?_
  refine AO.p rfl (p_assign rfl) ?_
  refine AO.p rfl (p_assign rfl) ?_
  refine AO.nil ?_
  refine AX.ret ?_
  obtain ⟨rfl, rfl⟩ := Prod.mk.inj (some_inj hd125)
  exact ⟨.inr rfl, _, res2 rfl (rv_tmp rfl) (rv_tmp rfl), rfl, (flat_t2 (flatB_ok rfl) (flatB_ok rfl)), S118.hold⟩

end Go.Proofs.Ytdafmafigcljkaa
