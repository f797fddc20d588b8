/-
  The program computes that, printed by a program. No condition.
-/
import Derived.Test.YtfiilgnebmidbaaDoorDF
import Derived.Test.YtfiilgnebmidbaaDoorWC
import Derived.Test.YtfiilgnebmidbaaDoorWD
import Derived.Test.YtfiilgnebmidbaaDoorProg
import Derived.KernelRfl
namespace Go.Proofs.YtfiilgnebmidbaaDoor
open Go Go.RowKit Am
set_option linter.unusedVariables false
set_option linter.unusedSimpArgs false
set_option maxRecDepth 20000
set_option maxHeartbeats 4000000 in
theorem W_spec_l04Text (fu : Nat) (H : AHeap) (a0_0 : Int) (p_a0_1 : Option Addr) (c_a0_1 : Nat) (T_a0_1 : Tb) (a0_1 : List (List Int)) (t_a0_1 : trows T_a0_1 = a0_1) (v_a0_1 : Vw H p_a0_1 a0_1.length c_a0_1 (tcells T_a0_1)) (w_a0_1 : TVw H T_a0_1) (r0 : ByteArray) (hd : D_spec_l04Text fu a0_0 a0_1 = some r0) : ACall Tryd.prog 27 [.agg [.int .i64 a0_0, .slice p_a0_1 a0_1.length c_a0_1].toArray] H (.string r0) H := by
  refine ACall.bodyP (N := 59) [(0, .agg [.int .i64 a0_0, .slice p_a0_1 a0_1.length c_a0_1].toArray)] Tryd.func27 rfl rfl rfl rfl ?_
  unfold D_spec_l04Text at hd
  have S0 : St [] H H [] := St.nil H
  refine AX.seq ?_
  refine AX.region ?_
  obtain ⟨G100, i101, hii101, hHG100, S102⟩ := S0.new (AObj.row false ([.int .i64 a0_0, .slice p_a0_1 a0_1.length c_a0_1]))
  refine AO.c rfl (s_box (i := i101) (cs := [.int .i64 a0_0, .slice p_a0_1 a0_1.length c_a0_1]) rfl hii101 rfl hHG100) ?_
  refine AO.p rfl (p_assign rfl) ?_
  refine AO.nil ?_
  refine AX.seq ?_
  refine AX.region ?_
  refine AO.p rfl (s_fieldAddr Tryd.underlying28 rfl Tryd.sizeOf2 (by decide) rfl rfl) ?_
  refine AO.c rfl (s_load Tryd.isAgg2 rfl (row_cell (S102.get (k := 0) rfl) rfl)) ?_
  obtain ⟨s104, h105, hd106⟩ := bnd_some hd
  refine AO.c rfl (o_call (vs := [.int .i64 a0_0]) rfl Tryd.call56 (W_spec_l01Dec fu G100 a0_0 s104 h105)) ?_
  obtain ⟨k108, hd109⟩ := chk_some hd106
  refine AO.p rfl (p_addS rfl rfl k108) ?_
  refine AO.p rfl (p_assign rfl) ?_
  refine AO.nil ?_
  refine AX.seq ?_
  refine AX.seq ?_
  refine AX.region ?_
  refine AO.p rfl (p_assign rfl) ?_
  refine AO.nil ?_
  obtain ⟨r1057, hl1058, hd1059⟩ := bnd_some hd109
  refine AX.cutS (fun t' H' => ∃ (s1056 : ByteArray), s1056 = r1057 ∧ St [] H H' [] ∧ Am.Sub [(3, .string s1056)] t') ?_ ?_
  · refine AX.block ?_
    refine AX.loopF (fun s' t' H' => ∃ (s741 : ByteArray) (x742 : Int), (s741, x742) = s' ∧ St [] H H' [[(i101, AObj.row false ([.int .i64 a0_0, .slice p_a0_1 a0_1.length c_a0_1]))]] ∧ Am.Sub [(1, .pointer (some ⟨i101, 0, none⟩)), (3, .string s741), (4, .int .i64 x742)] t') hl1058 ?_ ?_
    · skip
      have S1060 := S102.front 0 rfl
      exact ⟨(s104 ++ (⟨#[58]⟩ : ByteArray)), 0, rfl, S1060, Sub.cons' rfl rfl (Sub.cons' rfl rfl (Sub.cons' rfl rfl (Sub.nil _)))⟩
    · rintro n1061 _ t' G1065 ⟨s741, x742, rfl, S1064, hsub1066⟩ o1067 ho1062 hk1063
      refine AX.sub hsub1066 ?_
      unfold D_spec_l04Text_s0 at ho1062
      refine AX.seq ?_
      refine AX.seq ?_
      refine AX.region ?_
      refine AO.p rfl (p_move rfl) ?_
      refine AO.p rfl (s_fieldAddr Tryd.underlying28 rfl Tryd.sizeOf22 (by decide) rfl rfl) ?_
      refine AO.c rfl (s_load Tryd.isAgg22 rfl (row_cell (S1064.get (k := 0) rfl) rfl)) ?_
      refine AO.p rfl (p_len_slice rfl Tryd.underlying22) ?_
      refine AO.p rfl (p_lss rfl rfl) ?_
      refine AO.nil ?_
      refine AX.cond rfl (fun c1068 => ?_) (fun c1068 => ?_)
      · have hd1069 := bif_t c1068 ho1062
        refine AX.skip ?_
        refine AX.seq ?_
        refine AX.block ?_
        refine AX.seq ?_
        refine AX.seq ?_
        refine AX.region ?_
        refine AO.p rfl (p_move rfl) ?_
        refine AO.p rfl (p_gtr rfl rfl) ?_
        refine AO.nil ?_
        obtain ⟨r1077, hb1078, hd1079⟩ := bnd_some hd1069
        refine AX.cutS (fun t' H' => ∃ (s1076 : ByteArray), s1076 = r1077 ∧ St [] H H' [[(i101, AObj.row false ([.int .i64 a0_0, .slice p_a0_1 a0_1.length c_a0_1]))]] ∧ Am.Sub [(1, .pointer (some ⟨i101, 0, none⟩)), (3, .string s1076), (4, .int .i64 x742)] t') ?_ ?_
        · skip
          refine AX.cond rfl (fun c1080 => ?_) (fun c1080 => ?_)
          · have hd1081 := bif_t c1080 hb1078
            refine AX.region ?_
            refine AO.p rfl (p_move rfl) ?_
            obtain ⟨k1082, hd1083⟩ := chk_some hd1081
            refine AO.p rfl (p_addS rfl rfl k1082) ?_
            refine AO.p rfl (p_assign rfl) ?_
            refine AO.nil ?_
            have S1084 := S1064.front 0 rfl
            exact ⟨(s741 ++ (⟨#[59]⟩ : ByteArray)), (some_inj hd1083), S1084, Sub.cons' rfl rfl (Sub.cons' rfl rfl (Sub.cons' rfl rfl (Sub.nil _)))⟩
          · have hd1085 := bif_f c1080 hb1078
            refine AX.skip ?_
            have S1086 := S1064.front 0 rfl
            exact ⟨s741, (some_inj hd1085), S1086, Sub.cons' rfl rfl (Sub.cons' rfl rfl (Sub.cons' rfl rfl (Sub.nil _)))⟩
        · rintro t' G1088 ⟨s1076, rfl, S1087, hsub1089⟩
          refine ⟨_, hsub1089, ?_⟩
          refine AX.seq ?_
          refine AX.region ?_
          refine AO.p rfl (p_assign rfl) ?_
          refine AO.nil ?_
          obtain ⟨r1294, hl1295, hd1296⟩ := bnd_some hd1079
          refine AX.cutS (fun t' H' => ∃ (s1293 : ByteArray), s1293 = r1294 ∧ St [] H H' [[(i101, AObj.row false ([.int .i64 a0_0, .slice p_a0_1 a0_1.length c_a0_1]))]] ∧ Am.Sub [(1, .pointer (some ⟨i101, 0, none⟩)), (3, .string s1293), (4, .int .i64 x742)] t') ?_ ?_
          · refine AX.block ?_
            refine AX.loopF (fun s' t' H' => ∃ (s1225 : ByteArray) (x1226 : Int), (s1225, x1226) = s' ∧ St [] H H' [[(i101, AObj.row false ([.int .i64 a0_0, .slice p_a0_1 a0_1.length c_a0_1]))]] ∧ Am.Sub [(1, .pointer (some ⟨i101, 0, none⟩)), (3, .string s1225), (4, .int .i64 x742), (5, .int .i64 x1226)] t') hl1295 ?_ ?_
            · skip
              have S1297 := S1087.front 0 rfl
              exact ⟨s1076, 0, rfl, S1297, Sub.cons' rfl rfl (Sub.cons' rfl rfl (Sub.cons' rfl rfl (Sub.cons' rfl rfl (Sub.nil _))))⟩
            · rintro n1298 _ t' G1302 ⟨s1225, x1226, rfl, S1301, hsub1303⟩ o1304 ho1299 hk1300
              refine AX.sub hsub1303 ?_
              unfold D_spec_l04Text_s1 at ho1299
              refine AX.seq ?_
              refine AX.seq ?_
              refine AX.region ?_
              refine AO.p rfl (p_move rfl) ?_
              refine AO.p rfl (s_fieldAddr Tryd.underlying28 rfl Tryd.sizeOf22 (by decide) rfl rfl) ?_
              refine AO.c rfl (s_load Tryd.isAgg22 rfl (row_cell (S1301.get (k := 0) rfl) rfl)) ?_
              refine AO.p rfl (p_move rfl) ?_
              obtain ⟨k1305, hd1306⟩ := chk_some ho1299
              obtain ⟨p1307, c1308, e1309, f1310⟩ := tget t_a0_1 (lt_len rfl (inR_lt k1305))
              refine AO.p rfl (s_indexV (q := off p_a0_1 + x742.toNat) Tryd.underlying22 Tryd.sizeOf66 rfl ((S1301.view v_a0_1).p f1310) rfl k1305 (o1 _ _)) ?_
              refine AO.c rfl (s_load Tryd.isAgg66 rfl ((S1301.view v_a0_1).get _ _ f1310)) ?_
              refine AO.p rfl (p_len_slice rfl Tryd.underlying66) ?_
              refine AO.p rfl (p_lss rfl rfl) ?_
              refine AO.nil ?_
              refine AX.cond rfl (fun c1311 => ?_) (fun c1311 => ?_)
              · have hd1312 := bif_t c1311 hd1306
                refine AX.skip ?_
                refine AX.seq ?_
                refine AX.block ?_
                refine AX.seq ?_
                refine AX.seq ?_
                refine AX.region ?_
                refine AO.p rfl (p_move rfl) ?_
                refine AO.p rfl (p_gtr rfl rfl) ?_
                refine AO.nil ?_
                obtain ⟨r1320, hb1321, hd1322⟩ := bnd_some hd1312
                refine AX.cutS (fun t' H' => ∃ (s1319 : ByteArray), s1319 = r1320 ∧ St [] H H' [[(i101, AObj.row false ([.int .i64 a0_0, .slice p_a0_1 a0_1.length c_a0_1]))]] ∧ Am.Sub [(1, .pointer (some ⟨i101, 0, none⟩)), (3, .string s1319), (4, .int .i64 x742), (5, .int .i64 x1226)] t') ?_ ?_
                · skip
                  refine AX.cond rfl (fun c1323 => ?_) (fun c1323 => ?_)
                  · have hd1324 := bif_t c1323 hb1321
                    refine AX.region ?_
                    refine AO.p rfl (p_move rfl) ?_
                    obtain ⟨k1325, hd1326⟩ := chk_some hd1324
                    refine AO.p rfl (p_addS rfl rfl k1325) ?_
                    refine AO.p rfl (p_assign rfl) ?_
                    refine AO.nil ?_
                    have S1327 := S1301.front 0 rfl
                    exact ⟨(s1225 ++ (⟨#[44]⟩ : ByteArray)), (some_inj hd1326), S1327, Sub.cons' rfl rfl (Sub.cons' rfl rfl (Sub.cons' rfl rfl (Sub.cons' rfl rfl (Sub.nil _))))⟩
                  · have hd1328 := bif_f c1323 hb1321
                    refine AX.skip ?_
                    have S1329 := S1301.front 0 rfl
                    exact ⟨s1225, (some_inj hd1328), S1329, Sub.cons' rfl rfl (Sub.cons' rfl rfl (Sub.cons' rfl rfl (Sub.cons' rfl rfl (Sub.nil _))))⟩
                · rintro t' G1331 ⟨s1319, rfl, S1330, hsub1332⟩
                  refine ⟨_, hsub1332, ?_⟩
                  refine AX.seq ?_
                  refine AX.region ?_
                  refine AO.p rfl (s_fieldAddr Tryd.underlying28 rfl Tryd.sizeOf22 (by decide) rfl rfl) ?_
                  refine AO.c rfl (s_load Tryd.isAgg22 rfl (row_cell (S1330.get (k := 0) rfl) rfl)) ?_
                  refine AO.p rfl (p_move rfl) ?_
                  obtain ⟨k1333, hd1334⟩ := chk_some hd1322
                  obtain ⟨p1335, c1336, e1337, f1338⟩ := tget t_a0_1 (lt_len rfl (inR_lt k1333))
                  refine AO.p rfl (s_indexV (q := off p_a0_1 + x742.toNat) Tryd.underlying22 Tryd.sizeOf66 rfl ((S1330.view v_a0_1).p f1338) rfl k1333 (o1 _ _)) ?_
                  refine AO.c rfl (s_load Tryd.isAgg66 rfl ((S1330.view v_a0_1).get _ _ f1338)) ?_
                  refine AO.p rfl (p_move rfl) ?_
                  obtain ⟨k1339, hd1340⟩ := chk_some hd1334
                  refine AO.p rfl (s_indexV (q := off p1335 + x1226.toNat) Tryd.underlying66 Tryd.sizeOf2 rfl ((TVw.at (S1330.tview w_a0_1) e1337).p (ints_get (lt_len rfl (inR_lt k1339)))) rfl k1339 (o1 _ _)) ?_
                  refine AO.c rfl (s_load Tryd.isAgg2 rfl ((TVw.at (S1330.tview w_a0_1) e1337).get _ _ (ints_get (lt_len rfl (inR_lt k1339))))) ?_
                  refine AO.p rfl (p_assign rfl) ?_
                  refine AO.nil ?_
                  refine AX.seq ?_
                  refine AX.region ?_
                  refine AO.p rfl (p_move rfl) ?_
                  refine AO.p rfl (p_geq rfl rfl) ?_
                  refine AO.nil ?_
                  refine AX.cond rfl (fun c1341 => ?_) (fun c1341 => ?_)
                  · have hd1342 := bif_t c1341 hd1340
                    refine AX.region ?_
                    refine AO.p rfl (p_move rfl) ?_
                    refine AO.p rfl (p_move rfl) ?_
                    obtain ⟨k1343, hd1344⟩ := chk_some hd1342
                    refine AO.p rfl (p_quoE rfl rfl k1343) ?_
                    obtain ⟨s1345, h1346, hd1347⟩ := bnd_some hd1344
                    refine AO.c rfl (o_call (vs := [.int .i64 ((rd (rw_ a0_1 x742.toNat) x1226.toNat).tdiv 14)]) rfl Tryd.call56 (W_spec_l01Dec fu G1331 ((rd (rw_ a0_1 x742.toNat) x1226.toNat).tdiv 14) s1345 h1346)) ?_
                    obtain ⟨k1349, hd1350⟩ := chk_some hd1347
                    refine AO.p rfl (p_addS rfl rfl k1349) ?_
                    obtain ⟨k1351, hd1352⟩ := chk_some hd1350
                    refine AO.p rfl (p_addS rfl rfl k1351) ?_
                    refine AO.p rfl (p_move rfl) ?_
                    refine AO.p rfl (p_remE rfl rfl (by decide)) ?_
                    obtain ⟨s1353, h1354, hd1355⟩ := bnd_some hd1352
                    refine AO.c rfl (o_call (vs := [.int .i64 ((rd (rw_ a0_1 x742.toNat) x1226.toNat).tmod 14)]) rfl Tryd.call56 (W_spec_l01Dec fu G1331 ((rd (rw_ a0_1 x742.toNat) x1226.toNat).tmod 14) s1353 h1354)) ?_
                    obtain ⟨k1357, hd1358⟩ := chk_some hd1355
                    refine AO.p rfl (p_addS rfl rfl k1357) ?_
                    refine AO.p rfl (p_assign rfl) ?_
                    refine AO.nil ?_
                    refine AX.region ?_
                    refine AO.p rfl (p_move rfl) ?_
                    obtain ⟨k1359, hd1360⟩ := chk_some hd1358
                    refine AO.p rfl (p_addE rfl rfl k1359) ?_
                    refine AO.p rfl (p_assign rfl) ?_
                    refine AO.nil ?_
                    obtain rfl := some_inj hd1360
                    have S1362 := S1330.front 0 rfl
                    exact ⟨(((s1319 ++ s1345) ++ (⟨#[45]⟩ : ByteArray)) ++ s1353, x1226 + 1), hk1300, (((s1319 ++ s1345) ++ (⟨#[45]⟩ : ByteArray)) ++ s1353), (x1226 + 1), rfl, S1362, Sub.cons' rfl rfl (Sub.cons' rfl rfl (Sub.cons' rfl rfl (Sub.cons' rfl rfl (Sub.nil _))))⟩
                  · have hd1363 := bif_f c1341 hd1340
                    refine AX.region ?_
                    refine AO.p rfl (p_move rfl) ?_
                    obtain ⟨k1364, hd1365⟩ := chk_some hd1363
                    refine AO.p rfl (p_addS rfl rfl k1364) ?_
                    refine AO.p rfl (p_assign rfl) ?_
                    refine AO.nil ?_
                    refine AX.region ?_
                    refine AO.p rfl (p_move rfl) ?_
                    obtain ⟨k1366, hd1367⟩ := chk_some hd1365
                    refine AO.p rfl (p_addE rfl rfl k1366) ?_
                    refine AO.p rfl (p_assign rfl) ?_
                    refine AO.nil ?_
                    obtain rfl := some_inj hd1367
                    have S1369 := S1330.front 0 rfl
                    exact ⟨(s1319 ++ (⟨#[46]⟩ : ByteArray), x1226 + 1), hk1300, (s1319 ++ (⟨#[46]⟩ : ByteArray)), (x1226 + 1), rfl, S1369, Sub.cons' rfl rfl (Sub.cons' rfl rfl (Sub.cons' rfl rfl (Sub.cons' rfl rfl (Sub.nil _))))⟩
              · have hd1370 := bif_f c1311 hd1306
                refine AX.exit ?_
                obtain rfl := some_inj hd1370
                have S1371 := S1301.front 0 rfl
                exact ⟨s1225, hk1300, S1371, Sub.cons' rfl rfl (Sub.cons' rfl rfl (Sub.cons' rfl rfl (Sub.nil _)))⟩
          · rintro t' G1373 ⟨s1293, rfl, S1372, hsub1374⟩
            refine ⟨_, hsub1374, ?_⟩
            refine AX.region ?_
            refine AO.p rfl (p_move rfl) ?_
            obtain ⟨k1375, hd1376⟩ := chk_some hd1296
            refine AO.p rfl (p_addE rfl rfl k1375) ?_
            refine AO.p rfl (p_assign rfl) ?_
            refine AO.nil ?_
            obtain rfl := some_inj hd1376
            have S1378 := S1372.front 0 rfl
            exact ⟨(s1293, x742 + 1), hk1063, s1293, (x742 + 1), rfl, S1378, Sub.cons' rfl rfl (Sub.cons' rfl rfl (Sub.cons' rfl rfl (Sub.nil _)))⟩
      · have hd1379 := bif_f c1068 ho1062
        refine AX.exit ?_
        obtain rfl := some_inj hd1379
        have S1380 := S1064.keep 0
        exact ⟨s741, hk1063, S1380, Sub.cons' rfl rfl (Sub.nil _)⟩
  · rintro t' G1382 ⟨s1056, rfl, S1381, hsub1383⟩
    refine ⟨_, hsub1383, ?_⟩
    refine AX.seq ?_
    refine AX.region ?_
    refine AO.p rfl (p_move rfl) ?_
    refine AO.p rfl (p_assign rfl) ?_
    refine AO.nil ?_
    refine AX.ret ?_
    obtain rfl := some_inj hd1059
    exact ⟨.inr rfl, _, res1 rfl (rv_tmp rfl), rfl, (flatB_ok rfl), S1381.hold⟩

set_option maxHeartbeats 4000000 in
theorem W_impl_Square_text (fu : Nat) (H : AHeap) (a0_0 : Int) (p_a0_1 : Option Addr) (c_a0_1 : Nat) (T_a0_1 : Tb) (a0_1 : List (List Int)) (t_a0_1 : trows T_a0_1 = a0_1) (v_a0_1 : Vw H p_a0_1 a0_1.length c_a0_1 (tcells T_a0_1)) (w_a0_1 : TVw H T_a0_1) (r0 : ByteArray) (hd : D_impl_Square_text fu a0_0 a0_1 = some r0) : ACall Tryd.prog 30 [.agg [.int .i64 a0_0, .slice p_a0_1 a0_1.length c_a0_1].toArray] H (.string r0) H := by
  refine ACall.bodyP (N := 54) [(0, .agg [.int .i64 a0_0, .slice p_a0_1 a0_1.length c_a0_1].toArray)] Tryd.func30 rfl rfl rfl rfl ?_
  unfold D_impl_Square_text at hd
  have S0 : St [] H H [] := St.nil H
  refine AX.seq ?_
  refine AX.region ?_
  obtain ⟨G100, i101, hii101, hHG100, S102⟩ := S0.new (AObj.row false ([.int .i64 a0_0, .slice p_a0_1 a0_1.length c_a0_1]))
  refine AO.c rfl (s_box (i := i101) (cs := [.int .i64 a0_0, .slice p_a0_1 a0_1.length c_a0_1]) rfl hii101 rfl hHG100) ?_
  refine AO.p rfl (p_assign rfl) ?_
  refine AO.nil ?_
  refine AX.seq ?_
  refine AX.region ?_
  obtain ⟨G104, i105, hii105, hHG104, S106⟩ := S102.new (AObj.row false (sts []))
  refine AO.c rfl (s_build0 (i := i105) Tryd.underlying63 Tryd.sizeOf9 hii105 hHG104) ?_
  refine AO.p rfl (p_assign rfl) ?_
  refine AO.nil ?_
  refine AX.seq ?_
  refine AX.seq ?_
  refine AX.region ?_
  refine AO.p rfl (s_fieldAddr Tryd.underlying28 rfl Tryd.sizeOf22 (by decide) rfl rfl) ?_
  refine AO.c rfl (s_load Tryd.isAgg22 rfl (row_cell (S106.get (k := 1) rfl) rfl)) ?_
  refine AO.p rfl (p_len_slice rfl Tryd.underlying22) ?_
  refine AO.p rfl (p_move rfl) ?_
  refine AO.nil ?_
  obtain ⟨r1006, hl1007, hd1008⟩ := bnd_some hd
  refine AX.cutS (fun t' H' => ∃ (ss1005 : List ByteArray) (p1003 : Option Addr) (c1004 : Nat), ss1005 = r1006 ∧ St [] H H' [[(i101, AObj.row false ([.int .i64 a0_0, .slice p_a0_1 a0_1.length c_a0_1]))], oseg p1003 (sts ss1005)] ∧ Sb p1003 (ss1005.length) c1004 1 ∧ Am.Sub [(1, .pointer (some ⟨i101, 0, none⟩)), (3, .slice p1003 ss1005.length c1004)] t') ?_ ?_
  · refine AX.block ?_
    refine AX.loopF (fun s' t' H' => ∃ (ss706 : List ByteArray) (x707 : Int) (p704 : Option Addr) (c705 : Nat), (ss706, x707) = s' ∧ St [] H H' [[(i101, AObj.row false ([.int .i64 a0_0, .slice p_a0_1 a0_1.length c_a0_1]))], oseg p704 (sts ss706)] ∧ Sb p704 (ss706.length) c705 1 ∧ Am.Sub [(1, .pointer (some ⟨i101, 0, none⟩)), (3, .slice p704 ss706.length c705), (11, .slice p_a0_1 a0_1.length c_a0_1), (12, .int .i64 ((a0_1.length : Nat) : Int)), (13, .int .i64 x707)] t') hl1007 ?_ ?_
    · skip
      have S1009 := S106.front 0 rfl
      have S1010 := S1009.front 1 rfl
      exact ⟨[], 0, (some (Addr.mk i105 0 none)), 0, rfl, S1010, (Sb.lit (n := 0) (by decide)), Sub.cons' rfl rfl (Sub.cons' rfl rfl (Sub.cons' rfl rfl (Sub.cons' rfl rfl (Sub.cons' rfl rfl (Sub.nil _)))))⟩
    · rintro n1011 _ t' G1015 ⟨ss706, x707, p704, c705, rfl, S1014, Bo703, hsub1016⟩ o1017 ho1012 hk1013
      refine AX.sub hsub1016 ?_
      unfold D_impl_Square_text_s0 at ho1012
      refine AX.seq ?_
      refine AX.region ?_
      refine AO.p rfl (p_lss rfl rfl) ?_
      refine AO.nil ?_
      refine AX.seq ?_
      refine AX.cond rfl (fun c1018 => ?_) (fun c1018 => ?_)
      · have hd1019 := bif_t c1018 ho1012
        refine AX.skip ?_
        refine AX.seq ?_
        refine AX.block ?_
        refine AX.seq ?_
        refine AX.region ?_
        obtain ⟨k1020, hd1021⟩ := chk_some hd1019
        obtain ⟨p1022, c1023, e1024, f1025⟩ := tget t_a0_1 (lt_len rfl (inR_lt k1020))
        refine AO.p rfl (s_indexV (q := off p_a0_1 + x707.toNat) Tryd.underlying22 Tryd.sizeOf66 rfl ((S1014.view v_a0_1).p f1025) rfl k1020 (o1 _ _)) ?_
        refine AO.c rfl (s_load Tryd.isAgg66 rfl ((S1014.view v_a0_1).get _ _ f1025)) ?_
        refine AO.p rfl (p_assign rfl) ?_
        refine AO.nil ?_
        refine AX.seq ?_
        refine AX.region ?_
        obtain ⟨G1026, i1027, hii1027, hHG1026, S1028⟩ := S1014.new (AObj.row false (sts []))
        refine AO.c rfl (s_build0 (i := i1027) Tryd.underlying63 Tryd.sizeOf9 hii1027 hHG1026) ?_
        refine AO.p rfl (p_assign rfl) ?_
        refine AO.nil ?_
        refine AX.seq ?_
        refine AX.seq ?_
        refine AX.region ?_
        refine AO.p rfl (p_move rfl) ?_
        refine AO.p rfl (p_len_slice rfl Tryd.underlying66) ?_
        refine AO.p rfl (p_move rfl) ?_
        refine AO.nil ?_
        obtain ⟨r1212, hl1213, hd1214⟩ := bnd_some hd1021
        refine AX.cutS (fun t' H' => ∃ (ss1211 : List ByteArray) (p1209 : Option Addr) (c1210 : Nat), ss1211 = r1212 ∧ St [] H H' [[(i101, AObj.row false ([.int .i64 a0_0, .slice p_a0_1 a0_1.length c_a0_1]))], oseg p704 (sts ss706), oseg p1209 (sts ss1211)] ∧ Sb p1209 (ss1211.length) c1210 1 ∧ Am.Sub [(1, .pointer (some ⟨i101, 0, none⟩)), (3, .slice p704 ss706.length c705), (6, .slice p1209 ss1211.length c1210), (11, .slice p_a0_1 a0_1.length c_a0_1), (12, .int .i64 ((a0_1.length : Nat) : Int)), (13, .int .i64 x707)] t') ?_ ?_
        · refine AX.block ?_
          refine AX.loopF (fun s' t' H' => ∃ (ss1151 : List ByteArray) (x1152 : Int) (p1149 : Option Addr) (c1150 : Nat), (ss1151, x1152) = s' ∧ St [] H H' [[(i101, AObj.row false ([.int .i64 a0_0, .slice p_a0_1 a0_1.length c_a0_1]))], oseg p704 (sts ss706), oseg p1149 (sts ss1151)] ∧ Sb p1149 (ss1151.length) c1150 1 ∧ Am.Sub [(1, .pointer (some ⟨i101, 0, none⟩)), (3, .slice p704 ss706.length c705), (6, .slice p1149 ss1151.length c1150), (11, .slice p_a0_1 a0_1.length c_a0_1), (12, .int .i64 ((a0_1.length : Nat) : Int)), (13, .int .i64 x707), (18, .slice p1022 ((rw_ a0_1 x707.toNat).length) c1023), (19, .int .i64 (((rw_ a0_1 x707.toNat).length : Nat) : Int)), (20, .int .i64 x1152)] t') hl1213 ?_ ?_
          · skip
            have S1215 := S1028.front 0 rfl
            have S1216 := S1215.front 2 rfl
            have S1217 := S1216.front 2 rfl
            exact ⟨[], 0, (some (Addr.mk i1027 0 none)), 0, rfl, S1217, (Sb.lit (n := 0) (by decide)), Sub.cons' rfl rfl (Sub.cons' rfl rfl (Sub.cons' rfl rfl (Sub.cons' rfl rfl (Sub.cons' rfl rfl (Sub.cons' rfl rfl (Sub.cons' rfl rfl (Sub.cons' rfl rfl (Sub.cons' rfl rfl (Sub.nil _)))))))))⟩
          · rintro n1218 _ t' G1222 ⟨ss1151, x1152, p1149, c1150, rfl, S1221, Bo1148, hsub1223⟩ o1224 ho1219 hk1220
            refine AX.sub hsub1223 ?_
            unfold D_impl_Square_text_s1 at ho1219
            refine AX.seq ?_
            refine AX.region ?_
            refine AO.p rfl (p_lss rfl rfl) ?_
            refine AO.nil ?_
            refine AX.seq ?_
            refine AX.cond rfl (fun c1225 => ?_) (fun c1225 => ?_)
            · have hd1226 := bif_t c1225 ho1219
              refine AX.skip ?_
              refine AX.seq ?_
              refine AX.block ?_
              refine AX.seq ?_
              refine AX.region ?_
              obtain ⟨k1227, hd1228⟩ := chk_some hd1226
              refine AO.p rfl (s_indexV (q := off p1022 + x1152.toNat) Tryd.underlying66 Tryd.sizeOf2 rfl ((TVw.at (S1221.tview w_a0_1) e1024).p (ints_get (lt_len rfl (inR_lt k1227)))) rfl k1227 (o1 _ _)) ?_
              refine AO.c rfl (s_load Tryd.isAgg2 rfl ((TVw.at (S1221.tview w_a0_1) e1024).get _ _ (ints_get (lt_len rfl (inR_lt k1227))))) ?_
              refine AO.p rfl (p_assign rfl) ?_
              refine AO.nil ?_
              refine AX.seq ?_
              refine AX.region ?_
              refine AO.p rfl (p_move rfl) ?_
              refine AO.p rfl (p_lss rfl rfl) ?_
              refine AO.nil ?_
              refine AX.cond rfl (fun c1229 => ?_) (fun c1229 => ?_)
              · have hd1230 := bif_t c1229 hd1228
                refine AX.region ?_
                refine AO.p rfl (p_move rfl) ?_
                obtain ⟨G1231, i1232, hii1232, hHG1231, S1233⟩ := S1221.new (AObj.row false (sts ([(⟨#[46]⟩ : ByteArray)])))
                refine AO.c rfl (s_buildZ (i := i1232) (vs := [(0, .string (⟨#[46]⟩ : ByteArray))]) (cs := sts ([(⟨#[46]⟩ : ByteArray)])) Tryd.underlying63 Tryd.sizeOf9 Tryd.zeroValue9 rfl rfl rfl (by decide) rfl rfl hii1232 hHG1231) ?_
                obtain ⟨k1235, hd1236⟩ := chk_some hd1230
                obtain ⟨p1237, c1238, G1239, haG1239, S1240, Bp1237⟩ := S1233.app (k := 3) rfl Bo1148 (sts ([(⟨#[46]⟩ : ByteArray)])) 1 (sts_len1 rfl)
                have S1241 := S1240.cellsEq (k := 3) (us' := sts (ss1151 ++ [(⟨#[46]⟩ : ByteArray)])) (sts_app _ _) rfl
                have BS1241 : Sb p1237 ((ss1151 ++ [(⟨#[46]⟩ : ByteArray)]).length) c1238 1 := (show ss1151.length + 1 = (ss1151 ++ [(⟨#[46]⟩ : ByteArray)]).length from len_app (a := ss1151) (b := [(⟨#[46]⟩ : ByteArray)]) rfl rfl) ▸ Bp1237
                have S1242 := S1241.drop 0 rfl
                refine AO.c rfl (s_app (by_ := 16) (us := sts ss1151) (vs := sts ([(⟨#[46]⟩ : ByteArray)])) Tryd.underlying63 Tryd.underlying63 Tryd.typeInfo9 Tryd.sizeOf9 Tryd.zeroValue9 rfl rfl rfl rfl rfl rfl rfl (S1233.buf (k := 3) rfl Bo1148 (sts_len1 rfl)) (S1233.oview (k := 0) rfl (Sb.lit (n := 1) (by decide)) (sts_len1 rfl)) (sts_len1 rfl) sts_one k1235 haG1239 (show ss1151.length + 1 = (ss1151 ++ [(⟨#[46]⟩ : ByteArray)]).length from len_app (a := ss1151) (b := [(⟨#[46]⟩ : ByteArray)]) rfl rfl)) ?_
                refine AO.p rfl (p_assign rfl) ?_
                refine AO.nil ?_
                refine AX.region ?_
                obtain ⟨k1243, hd1244⟩ := chk_some hd1236
                refine AO.p rfl (p_addE rfl rfl k1243) ?_
                refine AO.p rfl (p_move rfl) ?_
                refine AO.nil ?_
                obtain rfl := some_inj hd1244
                have S1246 := S1242.front 2 rfl
                have S1247 := S1246.front 2 rfl
                have S1248 := S1247.front 2 rfl
                exact ⟨((ss1151 ++ [(⟨#[46]⟩ : ByteArray)]), x1152 + 1), hk1220, (ss1151 ++ [(⟨#[46]⟩ : ByteArray)]), (x1152 + 1), p1237, c1238, rfl, S1248, BS1241, Sub.cons' rfl rfl (Sub.cons' rfl rfl (Sub.cons' rfl rfl (Sub.cons' rfl rfl (Sub.cons' rfl rfl (Sub.cons' rfl rfl (Sub.cons' rfl rfl (Sub.cons' rfl rfl (Sub.cons' rfl rfl (Sub.nil _)))))))))⟩
              · have hd1249 := bif_f c1229 hd1228
                refine AX.region ?_
                refine AO.p rfl (p_move rfl) ?_
                refine AO.p rfl (p_move rfl) ?_
                obtain ⟨k1250, hd1251⟩ := chk_some hd1249
                refine AO.p rfl (p_quoE rfl rfl k1250) ?_
                obtain ⟨s1252, h1253, hd1254⟩ := bnd_some hd1251
                refine AO.c rfl (o_call (vs := [.int .i64 ((rd (rw_ a0_1 x707.toNat) x1152.toNat).tdiv 14)]) rfl Tryd.call65 (W_impl_decimal fu G1222 ((rd (rw_ a0_1 x707.toNat) x1152.toNat).tdiv 14) s1252 h1253)) ?_
                obtain ⟨k1256, hd1257⟩ := chk_some hd1254
                refine AO.p rfl (p_addS rfl rfl k1256) ?_
                refine AO.p rfl (p_move rfl) ?_
                refine AO.p rfl (p_remE rfl rfl (by decide)) ?_
                obtain ⟨s1258, h1259, hd1260⟩ := bnd_some hd1257
                refine AO.c rfl (o_call (vs := [.int .i64 ((rd (rw_ a0_1 x707.toNat) x1152.toNat).tmod 14)]) rfl Tryd.call65 (W_impl_decimal fu G1222 ((rd (rw_ a0_1 x707.toNat) x1152.toNat).tmod 14) s1258 h1259)) ?_
                obtain ⟨k1262, hd1263⟩ := chk_some hd1260
                refine AO.p rfl (p_addS rfl rfl k1262) ?_
                obtain ⟨G1264, i1265, hii1265, hHG1264, S1266⟩ := S1221.new (AObj.row false (sts ([(s1252 ++ (⟨#[45]⟩ : ByteArray)) ++ s1258])))
                refine AO.c rfl (s_buildZ (i := i1265) (vs := [(0, .string ((s1252 ++ (⟨#[45]⟩ : ByteArray)) ++ s1258))]) (cs := sts ([(s1252 ++ (⟨#[45]⟩ : ByteArray)) ++ s1258])) Tryd.underlying63 Tryd.sizeOf9 Tryd.zeroValue9 rfl rfl rfl (by decide) rfl rfl hii1265 hHG1264) ?_
                obtain ⟨k1268, hd1269⟩ := chk_some hd1263
                obtain ⟨p1270, c1271, G1272, haG1272, S1273, Bp1270⟩ := S1266.app (k := 3) rfl Bo1148 (sts ([(s1252 ++ (⟨#[45]⟩ : ByteArray)) ++ s1258])) 1 (sts_len1 rfl)
                have S1274 := S1273.cellsEq (k := 3) (us' := sts (ss1151 ++ [(s1252 ++ (⟨#[45]⟩ : ByteArray)) ++ s1258])) (sts_app _ _) rfl
                have BS1274 : Sb p1270 ((ss1151 ++ [(s1252 ++ (⟨#[45]⟩ : ByteArray)) ++ s1258]).length) c1271 1 := (show ss1151.length + 1 = (ss1151 ++ [(s1252 ++ (⟨#[45]⟩ : ByteArray)) ++ s1258]).length from len_app (a := ss1151) (b := [(s1252 ++ (⟨#[45]⟩ : ByteArray)) ++ s1258]) rfl rfl) ▸ Bp1270
                have S1275 := S1274.drop 0 rfl
                refine AO.c rfl (s_app (by_ := 16) (us := sts ss1151) (vs := sts ([(s1252 ++ (⟨#[45]⟩ : ByteArray)) ++ s1258])) Tryd.underlying63 Tryd.underlying63 Tryd.typeInfo9 Tryd.sizeOf9 Tryd.zeroValue9 rfl rfl rfl rfl rfl rfl rfl (S1266.buf (k := 3) rfl Bo1148 (sts_len1 rfl)) (S1266.oview (k := 0) rfl (Sb.lit (n := 1) (by decide)) (sts_len1 rfl)) (sts_len1 rfl) sts_one k1268 haG1272 (show ss1151.length + 1 = (ss1151 ++ [(s1252 ++ (⟨#[45]⟩ : ByteArray)) ++ s1258]).length from len_app (a := ss1151) (b := [(s1252 ++ (⟨#[45]⟩ : ByteArray)) ++ s1258]) rfl rfl)) ?_
                refine AO.p rfl (p_assign rfl) ?_
                refine AO.nil ?_
                refine AX.region ?_
                obtain ⟨k1276, hd1277⟩ := chk_some hd1269
                refine AO.p rfl (p_addE rfl rfl k1276) ?_
                refine AO.p rfl (p_move rfl) ?_
                refine AO.nil ?_
                obtain rfl := some_inj hd1277
                have S1279 := S1275.front 2 rfl
                have S1280 := S1279.front 2 rfl
                have S1281 := S1280.front 2 rfl
                exact ⟨((ss1151 ++ [(s1252 ++ (⟨#[45]⟩ : ByteArray)) ++ s1258]), x1152 + 1), hk1220, (ss1151 ++ [(s1252 ++ (⟨#[45]⟩ : ByteArray)) ++ s1258]), (x1152 + 1), p1270, c1271, rfl, S1281, BS1274, Sub.cons' rfl rfl (Sub.cons' rfl rfl (Sub.cons' rfl rfl (Sub.cons' rfl rfl (Sub.cons' rfl rfl (Sub.cons' rfl rfl (Sub.cons' rfl rfl (Sub.cons' rfl rfl (Sub.cons' rfl rfl (Sub.nil _)))))))))⟩
            · have hd1282 := bif_f c1225 ho1219
              refine AX.exit ?_
              obtain rfl := some_inj hd1282
              have S1283 := S1221.front 2 rfl
              have S1284 := S1283.front 2 rfl
              have S1285 := S1284.front 2 rfl
              exact ⟨ss1151, p1149, c1150, hk1220, S1285, Bo1148, Sub.cons' rfl rfl (Sub.cons' rfl rfl (Sub.cons' rfl rfl (Sub.cons' rfl rfl (Sub.cons' rfl rfl (Sub.cons' rfl rfl (Sub.nil _))))))⟩
        · rintro t' G1287 ⟨ss1211, p1209, c1210, rfl, S1286, Bo1208, hsub1288⟩
          refine ⟨_, hsub1288, ?_⟩
          refine AX.region ?_
          refine AO.p rfl (p_move rfl) ?_
          refine AO.p rfl (p_move rfl) ?_
          obtain ⟨s1289, h1290, hd1291⟩ := bnd_some hd1214
          refine AO.c rfl (o_call (vs := [.slice p1209 ss1211.length c1210, .string (⟨#[44]⟩ : ByteArray)]) rfl Tryd.call66 (W_strings_Join fu G1287 p1209 c1210 ss1211 (S1286.oview (k := 2) rfl Bo1208 (sts_len1 rfl)) (⟨#[44]⟩ : ByteArray) s1289 h1290)) ?_
          obtain ⟨G1293, i1294, hii1294, hHG1293, S1295⟩ := S1286.new (AObj.row false (sts [s1289]))
          refine AO.c rfl (s_buildZ (i := i1294) (vs := [(0, .string s1289)]) (cs := sts [s1289]) Tryd.underlying63 Tryd.sizeOf9 Tryd.zeroValue9 rfl rfl rfl (by decide) rfl rfl hii1294 hHG1293) ?_
          obtain ⟨k1297, hd1298⟩ := chk_some hd1291
          obtain ⟨p1299, c1300, G1301, haG1301, S1302, Bp1299⟩ := S1295.app (k := 2) rfl Bo703 (sts [s1289]) 1 (sts_len1 rfl)
          have S1303 := S1302.cellsEq (k := 2) (us' := sts (ss706 ++ [s1289])) (sts_app _ _) rfl
          have BS1303 : Sb p1299 ((ss706 ++ [s1289]).length) c1300 1 := (show ss706.length + 1 = (ss706 ++ [s1289]).length from len_app (a := ss706) (b := [s1289]) rfl rfl) ▸ Bp1299
          have S1304 := S1303.drop 0 rfl
          refine AO.c rfl (s_app (by_ := 16) (us := sts ss706) (vs := sts [s1289]) Tryd.underlying63 Tryd.underlying63 Tryd.typeInfo9 Tryd.sizeOf9 Tryd.zeroValue9 rfl rfl rfl rfl rfl rfl rfl (S1295.buf (k := 2) rfl Bo703 (sts_len1 rfl)) (S1295.oview (k := 0) rfl (Sb.lit (n := 1) (by decide)) (sts_len1 rfl)) (sts_len1 rfl) sts_one k1297 haG1301 (show ss706.length + 1 = (ss706 ++ [s1289]).length from len_app (a := ss706) (b := [s1289]) rfl rfl)) ?_
          refine AO.p rfl (p_assign rfl) ?_
          refine AO.nil ?_
          refine AX.region ?_
          obtain ⟨k1305, hd1306⟩ := chk_some hd1298
          refine AO.p rfl (p_addE rfl rfl k1305) ?_
          refine AO.p rfl (p_move rfl) ?_
          refine AO.nil ?_
          obtain rfl := some_inj hd1306
          have S1308 := S1304.front 1 rfl
          have S1309 := S1308.front 1 rfl
          have S1310 := S1309.keep 2
          exact ⟨((ss706 ++ [s1289]), x707 + 1), hk1013, (ss706 ++ [s1289]), (x707 + 1), p1299, c1300, rfl, S1310, BS1303, Sub.cons' rfl rfl (Sub.cons' rfl rfl (Sub.cons' rfl rfl (Sub.cons' rfl rfl (Sub.cons' rfl rfl (Sub.nil _)))))⟩
      · have hd1311 := bif_f c1018 ho1012
        refine AX.exit ?_
        obtain rfl := some_inj hd1311
        have S1312 := S1014.front 1 rfl
        have S1313 := S1312.front 1 rfl
        exact ⟨ss706, p704, c705, hk1013, S1313, Bo703, Sub.cons' rfl rfl (Sub.cons' rfl rfl (Sub.nil _))⟩
  · rintro t' G1315 ⟨ss1005, p1003, c1004, rfl, S1314, Bo1002, hsub1316⟩
    refine ⟨_, hsub1316, ?_⟩
    refine AX.seq ?_
    refine AX.region ?_
    refine AO.p rfl (s_fieldAddr Tryd.underlying28 rfl Tryd.sizeOf2 (by decide) rfl rfl) ?_
    refine AO.c rfl (s_load Tryd.isAgg2 rfl (row_cell (S1314.get (k := 0) rfl) rfl)) ?_
    obtain ⟨s1317, h1318, hd1319⟩ := bnd_some hd1008
    refine AO.c rfl (o_call (vs := [.int .i64 a0_0]) rfl Tryd.call65 (W_impl_decimal fu G1315 a0_0 s1317 h1318)) ?_
    obtain ⟨k1321, hd1322⟩ := chk_some hd1319
    refine AO.p rfl (p_addS rfl rfl k1321) ?_
    refine AO.p rfl (p_move rfl) ?_
    obtain ⟨s1323, h1324, hd1325⟩ := bnd_some hd1322
    refine AO.c rfl (o_call (vs := [.slice p1003 ss1005.length c1004, .string (⟨#[59]⟩ : ByteArray)]) rfl Tryd.call66 (W_strings_Join fu G1315 p1003 c1004 ss1005 (S1314.oview (k := 1) rfl Bo1002 (sts_len1 rfl)) (⟨#[59]⟩ : ByteArray) s1323 h1324)) ?_
    obtain ⟨k1327, hd1328⟩ := chk_some hd1325
    refine AO.p rfl (p_addS rfl rfl k1327) ?_
    refine AO.p rfl (p_assign rfl) ?_
    refine AO.nil ?_
    refine AX.ret ?_
    obtain rfl := some_inj hd1328
    exact ⟨.inr rfl, _, res1 rfl (rv_tmp rfl), rfl, (flatB_ok rfl), S1314.hold⟩

set_option maxHeartbeats 4000000 in
theorem W_spec_SquareText (fu : Nat) (H : AHeap) (a0_0 : Int) (p_a0_1 : Option Addr) (c_a0_1 : Nat) (T_a0_1 : Tb) (a0_1 : List (List Int)) (t_a0_1 : trows T_a0_1 = a0_1) (v_a0_1 : Vw H p_a0_1 a0_1.length c_a0_1 (tcells T_a0_1)) (w_a0_1 : TVw H T_a0_1) (r0 : ByteArray) (r1 : Int) (hd : D_spec_SquareText fu a0_0 a0_1 = some (r0, r1)) : ACall Tryd.prog 8 [.agg [.int .i64 a0_0, .slice p_a0_1 a0_1.length c_a0_1].toArray] H (.tuple #[.string r0, .int .i64 r1]) H := by
  refine ACall.bodyP (N := 9) [(0, .agg [.int .i64 a0_0, .slice p_a0_1 a0_1.length c_a0_1].toArray)] Tryd.func8 rfl rfl rfl rfl ?_
  unfold D_spec_SquareText at hd
  have S0 : St [] H H [] := St.nil H
  refine AX.seq ?_
  refine AX.region ?_
  obtain ⟨G100, i101, hii101, hHG100, S102⟩ := S0.new (AObj.row false ([.int .i64 a0_0, .slice p_a0_1 a0_1.length c_a0_1]))
  refine AO.c rfl (s_box (i := i101) (cs := [.int .i64 a0_0, .slice p_a0_1 a0_1.length c_a0_1]) rfl hii101 rfl hHG100) ?_
  refine AO.p rfl (p_assign rfl) ?_
  refine AO.p rfl (p_assign rfl) ?_
  refine AO.nil ?_
  refine AX.seq ?_
  refine AX.seq ?_
  refine AX.region ?_
  refine AO.c rfl (s_loadN (vs := [.int .i64 a0_0, .slice p_a0_1 a0_1.length c_a0_1]) Tryd.isAgg28 Tryd.sizeOf28 rfl rfl (row_cells (S102.get (k := 0) rfl))) ?_
  obtain ⟨b104, h105, hd106⟩ := bnd_some hd
  refine AO.c rfl (o_call (vs := [.agg [.int .i64 a0_0, .slice p_a0_1 a0_1.length c_a0_1].toArray]) rfl Tryd.call26 (W_spec_l04Is fu G100 a0_0 p_a0_1 c_a0_1 T_a0_1 a0_1 t_a0_1 (S102.view v_a0_1) (S102.tview w_a0_1) b104 h105)) ?_
  refine AO.p rfl (p_not rfl) ?_
  refine AO.nil ?_
  refine AX.cond rfl (fun c108 => ?_) (fun c108 => ?_)
  · have hd109 := bif_t c108 hd106
    refine AX.seq ?_
    refine AX.region ?_
    refine AO.p rfl (p_assign rfl) ?_
    refine AO.p rfl (p_assign rfl) ?_
    refine AO.nil ?_
    refine AX.ret ?_
    obtain ⟨rfl, rfl⟩ := Prod.mk.inj (some_inj hd109)
    exact ⟨.inr rfl, _, res2 rfl (rv_tmp rfl) (rv_tmp rfl), rfl, (flat_t2 (flatB_ok rfl) (flatB_ok rfl)), S102.hold⟩
  · have hd111 := bif_f c108 hd106
    refine AX.skip ?_
    refine AX.seq ?_
    refine AX.region ?_
    refine AO.c rfl (s_loadN (vs := [.int .i64 a0_0, .slice p_a0_1 a0_1.length c_a0_1]) Tryd.isAgg28 Tryd.sizeOf28 rfl rfl (row_cells (S102.get (k := 0) rfl))) ?_
    obtain ⟨s112, h113, hd114⟩ := bnd_some hd111
    refine AO.c rfl (o_call (vs := [.agg [.int .i64 a0_0, .slice p_a0_1 a0_1.length c_a0_1].toArray]) rfl Tryd.call27 (W_spec_l04Text fu G100 a0_0 p_a0_1 c_a0_1 T_a0_1 a0_1 t_a0_1 (S102.view v_a0_1) (S102.tview w_a0_1) s112 h113)) ?_
    refine AO.p rfl (p_assign rfl) ?_
    refine AO.p rfl (p_assign rfl) ?_
    refine AO.nil ?_
    refine AX.ret ?_
    obtain ⟨rfl, rfl⟩ := Prod.mk.inj (some_inj hd114)
    exact ⟨.inr rfl, _, res2 rfl (rv_tmp rfl) (rv_tmp rfl), rfl, (flat_t2 (flatB_ok rfl) (flatB_ok rfl)), S102.hold⟩

set_option maxHeartbeats 4000000 in
theorem W_impl_SquareText (fu : Nat) (H : AHeap) (a0_0 : Int) (p_a0_1 : Option Addr) (c_a0_1 : Nat) (T_a0_1 : Tb) (a0_1 : List (List Int)) (t_a0_1 : trows T_a0_1 = a0_1) (v_a0_1 : Vw H p_a0_1 a0_1.length c_a0_1 (tcells T_a0_1)) (w_a0_1 : TVw H T_a0_1) (r0 : ByteArray) (r1 : Int) (hd : D_impl_SquareText fu a0_0 a0_1 = some (r0, r1)) : ACall Tryd.prog 10 [.agg [.int .i64 a0_0, .slice p_a0_1 a0_1.length c_a0_1].toArray] H (.tuple #[.string r0, .int .i64 r1]) H := by
  refine ACall.bodyP (N := 9) [(0, .agg [.int .i64 a0_0, .slice p_a0_1 a0_1.length c_a0_1].toArray)] Tryd.func10 rfl rfl rfl rfl ?_
  unfold D_impl_SquareText at hd
  have S0 : St [] H H [] := St.nil H
  refine AX.seq ?_
  refine AX.region ?_
  obtain ⟨G100, i101, hii101, hHG100, S102⟩ := S0.new (AObj.row false ([.int .i64 a0_0, .slice p_a0_1 a0_1.length c_a0_1]))
  refine AO.c rfl (s_box (i := i101) (cs := [.int .i64 a0_0, .slice p_a0_1 a0_1.length c_a0_1]) rfl hii101 rfl hHG100) ?_
  refine AO.p rfl (p_assign rfl) ?_
  refine AO.p rfl (p_assign rfl) ?_
  refine AO.nil ?_
  refine AX.seq ?_
  refine AX.seq ?_
  refine AX.region ?_
  refine AO.c rfl (s_loadN (vs := [.int .i64 a0_0, .slice p_a0_1 a0_1.length c_a0_1]) Tryd.isAgg28 Tryd.sizeOf28 rfl rfl (row_cells (S102.get (k := 0) rfl))) ?_
  obtain ⟨b104, h105, hd106⟩ := bnd_some hd
  refine AO.c rfl (o_call (vs := [.agg [.int .i64 a0_0, .slice p_a0_1 a0_1.length c_a0_1].toArray]) rfl Tryd.call29 (W_impl_IsSquare fu G100 a0_0 p_a0_1 c_a0_1 T_a0_1 a0_1 t_a0_1 (S102.view v_a0_1) (S102.tview w_a0_1) b104 h105)) ?_
  refine AO.p rfl (p_not rfl) ?_
  refine AO.nil ?_
  refine AX.cond rfl (fun c108 => ?_) (fun c108 => ?_)
  · have hd109 := bif_t c108 hd106
    refine AX.seq ?_
    refine AX.region ?_
    refine AO.p rfl (p_assign rfl) ?_
    refine AO.p rfl (p_assign rfl) ?_
    refine AO.nil ?_
    refine AX.ret ?_
    obtain ⟨rfl, rfl⟩ := Prod.mk.inj (some_inj hd109)
    exact ⟨.inr rfl, _, res2 rfl (rv_tmp rfl) (rv_tmp rfl), rfl, (flat_t2 (flatB_ok rfl) (flatB_ok rfl)), S102.hold⟩
  · have hd111 := bif_f c108 hd106
    refine AX.skip ?_
    refine AX.seq ?_
    refine AX.region ?_
    refine AO.c rfl (s_loadN (vs := [.int .i64 a0_0, .slice p_a0_1 a0_1.length c_a0_1]) Tryd.isAgg28 Tryd.sizeOf28 rfl rfl (row_cells (S102.get (k := 0) rfl))) ?_
    obtain ⟨s112, h113, hd114⟩ := bnd_some hd111
    refine AO.c rfl (o_call (vs := [.agg [.int .i64 a0_0, .slice p_a0_1 a0_1.length c_a0_1].toArray]) rfl Tryd.call30 (W_impl_Square_text fu G100 a0_0 p_a0_1 c_a0_1 T_a0_1 a0_1 t_a0_1 (S102.view v_a0_1) (S102.tview w_a0_1) s112 h113)) ?_
    refine AO.p rfl (p_assign rfl) ?_
    refine AO.p rfl (p_assign rfl) ?_
    refine AO.nil ?_
    refine AX.ret ?_
    obtain ⟨rfl, rfl⟩ := Prod.mk.inj (some_inj hd114)
    exact ⟨.inr rfl, _, res2 rfl (rv_tmp rfl) (rv_tmp rfl), rfl, (flat_t2 (flatB_ok rfl) (flatB_ok rfl)), S102.hold⟩

end Go.Proofs.YtfiilgnebmidbaaDoor
