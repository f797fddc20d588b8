/-
  The program computes that, printed by a program. No condition.
-/
import Derived.Test.YtpaaoafgahbokaaDO
import Derived.Test.YtpaaoafgahbokaaWC
import Derived.Test.YtpaaoafgahbokaaWE
import Derived.Test.YtpaaoafgahbokaaProg
import Derived.KernelRfl
namespace Go.Proofs.Ytpaaoafgahbokaa
open Go Go.RowKit Am
set_option linter.unusedVariables false
set_option linter.unusedSimpArgs false
set_option maxRecDepth 20000
set_option maxHeartbeats 4000000 in
theorem W_spec_l05First (fu : Nat) (H : AHeap) (a0_0 : Int) (p_a0_1 : Option Addr) (c_a0_1 : Nat) (a0_1 : List (List Int)) (a_a0_1 : All 14 a0_1) (v_a0_1 : Vw H p_a0_1 a0_1.length c_a0_1 (ints a0_1.flatten)) (r0 : List (List Int)) (hd : D_spec_l05First fu a0_0 a0_1 = some r0) : ∃ v G', ACall Try.prog 72 [.agg [.int .i64 a0_0, .slice p_a0_1 a0_1.length c_a0_1].toArray] H v G' ∧ ∃ (p_r0 : Option Addr) (c_r0 : Nat) (T_r0 : Tb), (v = .slice p_r0 r0.length c_r0) ∧ St [] H G' [oseg p_r0 (tcells T_r0), tseg T_r0] ∧ Sb p_r0 r0.length c_r0 1 ∧ trows T_r0 = r0 ∧ TSb T_r0 := by
  refine ACall.bodyX (args := [.agg [.int .i64 a0_0, .slice p_a0_1 a0_1.length c_a0_1].toArray]) (N := 52) [(0, .agg [.int .i64 a0_0, .slice p_a0_1 a0_1.length c_a0_1].toArray)] (fun v G' => ∃ (p_r0 : Option Addr) (c_r0 : Nat) (T_r0 : Tb), (v = .slice p_r0 r0.length c_r0) ∧ St [] H G' [oseg p_r0 (tcells T_r0), tseg T_r0] ∧ Sb p_r0 r0.length c_r0 1 ∧ trows T_r0 = r0 ∧ TSb T_r0) Try.func72 rfl rfl rfl rfl ?_
  unfold D_spec_l05First at hd
  have S0 : St [] H H [] := St.nil H
  refine AX.seq ?_
  refine AX.region ?_
  obtain ⟨G100, i101, hii101, hHG100, S102⟩ := S0.new (AObj.row false ([.int .i64 a0_0, .slice p_a0_1 a0_1.length c_a0_1]))
  refine AO.c rfl (s_box (i := i101) (cs := [.int .i64 a0_0, .slice p_a0_1 a0_1.length c_a0_1]) rfl hii101 rfl hHG100) ?_
  refine AO.p rfl (p_assign rfl) ?_
  refine AO.nil ?_
  refine AX.seq ?_
  refine AX.region ?_
  obtain ⟨G104, i105, hii105, hHG104, S106⟩ := S102.new (AObj.row false (tcells []))
  have S106t := S106.nilseg 1
  refine AO.c rfl (s_build0 (i := i105) Try.underlying22 Try.sizeOf68 hii105 hHG104) ?_
  refine AO.p rfl (p_assign rfl) ?_
  refine AO.nil ?_
  refine AX.seq ?_
  refine AX.seq ?_
  refine AX.region ?_
  refine AO.p rfl (p_assign rfl) ?_
  refine AO.nil ?_
  obtain ⟨r1068, hl1069, hd1070⟩ := bnd_some hd
  refine AX.cutQ (fun t' H' => ∃ (rs1066 : List (List Int)) (p1064 : Option Addr) (c1065 : Nat) (T1067 : Tb), rs1066 = r1068 ∧ St [] H H' [oseg p1064 (tcells T1067), tseg T1067] ∧ trows T1067 = rs1066 ∧ TSb T1067 ∧ Sb p1064 (rs1066.length) c1065 1 ∧ Am.Sub [(3, .slice p1064 rs1066.length c1065)] t') ?_ ?_
  · refine AX.block ?_
    refine AX.loopF (fun s' t' H' => ∃ (rs747 : List (List Int)) (x749 : Int) (p745 : Option Addr) (c746 : Nat) (T748 : Tb), (rs747, x749) = s' ∧ St [] H H' [[(i101, AObj.row false ([.int .i64 a0_0, .slice p_a0_1 a0_1.length c_a0_1]))], oseg p745 (tcells T748), tseg T748] ∧ trows T748 = rs747 ∧ TSb T748 ∧ Sb p745 (rs747.length) c746 1 ∧ Am.Sub [(1, .pointer (some ⟨i101, 0, none⟩)), (3, .slice p745 rs747.length c746), (4, .int .i64 x749)] t') hl1069 ?_ ?_
    · skip
      have S1071 := S106t.front 1 rfl
      have S1072 := S1071.front 1 rfl
      have S1073 := S1072.front 2 rfl
      exact ⟨[], 0, (some (Addr.mk i105 0 none)), 0, [], rfl, S1073, rfl, TSb.nil, (Sb.lit (n := 0) (by decide)), Sub.cons' rfl rfl (Sub.cons' rfl rfl (Sub.cons' rfl rfl (Sub.nil _)))⟩
    · rintro n1074 _ t' G1078 ⟨rs747, x749, p745, c746, T748, rfl, S1077, tT748, sT748, Bo744, hsub1079⟩ o1080 ho1075 hk1076
      refine AX.sub hsub1079 ?_
      unfold D_spec_l05First_s0 at ho1075
      refine AX.seq ?_
      refine AX.seq ?_
      refine AX.region ?_
      refine AO.p rfl (p_move rfl) ?_
      refine AO.p rfl (s_fieldAddr Try.underlying39 rfl Try.sizeOf37 (by decide) rfl rfl) ?_
      refine AO.c rfl (s_load Try.isAgg37 rfl (row_cell (S1077.get (k := 0) rfl) rfl)) ?_
      refine AO.p rfl (p_len_slice rfl Try.underlying37) ?_
      refine AO.p rfl (p_lss rfl rfl) ?_
      refine AO.nil ?_
      refine AX.cond rfl (fun c1081 => ?_) (fun c1081 => ?_)
      · have hd1082 := bif_t c1081 ho1075
        refine AX.skip ?_
        refine AX.seq ?_
        refine AX.block ?_
        refine AX.seq ?_
        refine AX.region ?_
        obtain ⟨G1083, i1084, hii1084, hHG1083, S1085⟩ := S1077.new (AObj.row false (ints []))
        refine AO.c rfl (s_build0 (i := i1084) Try.underlying68 Try.sizeOf2 hii1084 hHG1083) ?_
        refine AO.p rfl (p_assign rfl) ?_
        refine AO.nil ?_
        refine AX.seq ?_
        refine AX.seq ?_
        refine AX.region ?_
        refine AO.p rfl (p_assign rfl) ?_
        refine AO.nil ?_
        obtain ⟨r1282, hl1283, hd1284⟩ := bnd_some hd1082
        refine AX.cutQ (fun t' H' => ∃ (xs1281 : List Int) (p1279 : Option Addr) (c1280 : Nat), xs1281 = r1282 ∧ St [] H H' [[(i101, AObj.row false ([.int .i64 a0_0, .slice p_a0_1 a0_1.length c_a0_1]))], oseg p745 (tcells T748), tseg T748, oseg p1279 (ints xs1281)] ∧ Sb p1279 (xs1281.length) c1280 1 ∧ Am.Sub [(1, .pointer (some ⟨i101, 0, none⟩)), (3, .slice p745 rs747.length c746), (4, .int .i64 x749), (5, .slice p1279 xs1281.length c1280)] t') ?_ ?_
        · refine AX.block ?_
          refine AX.loopF (fun s' t' H' => ∃ (xs1216 : List Int) (x1217 : Int) (p1214 : Option Addr) (c1215 : Nat), (xs1216, x1217) = s' ∧ St [] H H' [[(i101, AObj.row false ([.int .i64 a0_0, .slice p_a0_1 a0_1.length c_a0_1]))], oseg p745 (tcells T748), tseg T748, oseg p1214 (ints xs1216)] ∧ Sb p1214 (xs1216.length) c1215 1 ∧ Am.Sub [(1, .pointer (some ⟨i101, 0, none⟩)), (3, .slice p745 rs747.length c746), (4, .int .i64 x749), (5, .slice p1214 xs1216.length c1215), (6, .int .i64 x1217)] t') hl1283 ?_ ?_
          · skip
            have S1285 := S1085.front 0 rfl
            have S1286 := S1285.front 3 rfl
            have S1287 := S1286.front 3 rfl
            have S1288 := S1287.front 3 rfl
            exact ⟨[], 0, (some (Addr.mk i1084 0 none)), 0, rfl, S1288, (Sb.lit (n := 0) (by decide)), Sub.cons' rfl rfl (Sub.cons' rfl rfl (Sub.cons' rfl rfl (Sub.cons' rfl rfl (Sub.cons' rfl rfl (Sub.nil _)))))⟩
          · rintro n1289 _ t' G1293 ⟨xs1216, x1217, p1214, c1215, rfl, S1292, Bo1213, hsub1294⟩ o1295 ho1290 hk1291
            refine AX.sub hsub1294 ?_
            unfold D_spec_l05First_s1 at ho1290
            refine AX.seq ?_
            refine AX.seq ?_
            refine AX.region ?_
            refine AO.p rfl (p_move rfl) ?_
            refine AO.p rfl (s_fieldAddr Try.underlying39 rfl Try.sizeOf2 (by decide) rfl rfl) ?_
            refine AO.c rfl (s_load Try.isAgg2 rfl (row_cell (S1292.get (k := 0) rfl) rfl)) ?_
            refine AO.p rfl (p_lss rfl rfl) ?_
            refine AO.nil ?_
            refine AX.cond rfl (fun c1296 => ?_) (fun c1296 => ?_)
            · have hd1297 := bif_t c1296 ho1290
              refine AX.skip ?_
              refine AX.seq ?_
              refine AX.block ?_
              refine AX.seq ?_
              refine AX.region ?_
              refine AO.p rfl (s_fieldAddr Try.underlying39 rfl Try.sizeOf37 (by decide) rfl rfl) ?_
              refine AO.c rfl (s_load Try.isAgg37 rfl (row_cell (S1292.get (k := 0) rfl) rfl)) ?_
              refine AO.p rfl (p_move rfl) ?_
              refine AO.p rfl (p_move rfl) ?_
              obtain ⟨k1298, hd1299⟩ := chk_some hd1297
              refine AO.p rfl (s_indexV (q := off p_a0_1 + x749.toNat * 14) Try.underlying37 Try.sizeOf65 rfl ((S1292.view v_a0_1).rowne a_a0_1 (by decide) (lt_len rfl (inR_lt k1298))) rfl k1298 rfl) ?_
              obtain ⟨k1300, hd1301⟩ := chk_some hd1299
              refine AO.p rfl (s_indexAr (q := off p_a0_1 + x749.toNat * 14 + x1217.toNat) Try.underlying65 Try.sizeOf2 rfl rfl k1300 (o1 _ _)) ?_
              refine AO.c rfl (s_load Try.isAgg2 rfl ((S1292.view v_a0_1).row a_a0_1 (lt_len rfl (inR_lt k1298)) _ _ (ints_get (lt_len (rw_len a_a0_1 (lt_len rfl (inR_lt k1298))) (inR_lt k1300))))) ?_
              refine AO.p rfl (p_assign rfl) ?_
              refine AO.nil ?_
              refine AX.block ?_
              refine AX.seq ?_
              refine AX.region ?_
              refine AO.p rfl (p_move rfl) ?_
              refine AO.p rfl (p_move rfl) ?_
              refine AO.p rfl (p_eql rfl rfl) ?_
              refine AO.p rfl (p_assign rfl) ?_
              refine AO.nil ?_
              refine AX.cond rfl (fun c1302 => ?_) (fun c1302 => ?_)
              · have hd1303 := bif_t c1302 hd1301
                refine AX.region ?_
                refine AO.p rfl (p_move rfl) ?_
                obtain ⟨G1304, i1305, hii1305, hHG1304, S1306⟩ := S1292.new (AObj.row false (ints [(-1)]))
                refine AO.c rfl (s_buildInts (i := i1305) (vs := [(0, .int .i64 (-1))]) (xs := [(-1)]) Try.underlying68 Try.sizeOf2 Try.zeroValue2 rfl rfl (by decide) rfl rfl hii1305 hHG1304) ?_
                obtain ⟨k1308, hd1309⟩ := chk_some hd1303
                obtain ⟨p1310, c1311, G1312, haG1312, S1313, Bp1310⟩ := S1306.app (k := 4) rfl Bo1213 (ints [(-1)]) 1 (ints_len1 rfl)
                have S1314 := S1313.cellsEq (k := 4) (us' := ints (xs1216 ++ [(-1)])) (ints_app _ _) rfl
                have BS1314 : Sb p1310 ((xs1216 ++ [(-1)]).length) c1311 1 := (show xs1216.length + 1 = (xs1216 ++ [(-1)]).length from len_app (a := xs1216) (b := [(-1)]) rfl rfl) ▸ Bp1310
                have S1315 := S1314.drop 0 rfl
                refine AO.c rfl (s_app (by_ := 8) (us := ints xs1216) (vs := ints [(-1)]) Try.underlying68 Try.underlying68 Try.typeInfo2 Try.sizeOf2 Try.zeroValue2 rfl rfl rfl rfl rfl rfl rfl (S1306.buf (k := 4) rfl Bo1213 (ints_len1 rfl)) (S1306.oview (k := 0) rfl (Sb.lit (n := 1) (by decide)) (ints_len1 rfl)) (ints_len1 rfl) ints_one k1308 haG1312 (show xs1216.length + 1 = (xs1216 ++ [(-1)]).length from len_app (a := xs1216) (b := [(-1)]) rfl rfl)) ?_
                refine AO.p rfl (p_assign rfl) ?_
                refine AO.nil ?_
                refine AX.region ?_
                refine AO.p rfl (p_move rfl) ?_
                obtain ⟨k1316, hd1317⟩ := chk_some hd1309
                refine AO.p rfl (p_addE rfl rfl k1316) ?_
                refine AO.p rfl (p_assign rfl) ?_
                refine AO.nil ?_
                obtain rfl := some_inj hd1317
                have S1319 := S1315.front 3 rfl
                have S1320 := S1319.front 3 rfl
                have S1321 := S1320.front 3 rfl
                have S1322 := S1321.front 3 rfl
                exact ⟨((xs1216 ++ [(-1)]), x1217 + 1), hk1291, (xs1216 ++ [(-1)]), (x1217 + 1), p1310, c1311, rfl, S1322, BS1314, Sub.cons' rfl rfl (Sub.cons' rfl rfl (Sub.cons' rfl rfl (Sub.cons' rfl rfl (Sub.cons' rfl rfl (Sub.nil _)))))⟩
              · have hd1323 := bif_f c1302 hd1301
                refine AX.seq ?_
                refine AX.region ?_
                refine AO.p rfl (p_move rfl) ?_
                refine AO.p rfl (p_move rfl) ?_
                refine AO.p rfl (p_lss rfl rfl) ?_
                refine AO.p rfl (p_assign rfl) ?_
                refine AO.nil ?_
                refine AX.cond rfl (fun c1324 => ?_) (fun c1324 => ?_)
                · have hd1325 := bif_t c1324 hd1323
                  refine AX.region ?_
                  refine AO.p rfl (p_move rfl) ?_
                  obtain ⟨G1326, i1327, hii1327, hHG1326, S1328⟩ := S1292.new (AObj.row false (ints [1]))
                  refine AO.c rfl (s_buildInts (i := i1327) (vs := [(0, .int .i64 1)]) (xs := [1]) Try.underlying68 Try.sizeOf2 Try.zeroValue2 rfl rfl (by decide) rfl rfl hii1327 hHG1326) ?_
                  obtain ⟨k1330, hd1331⟩ := chk_some hd1325
                  obtain ⟨p1332, c1333, G1334, haG1334, S1335, Bp1332⟩ := S1328.app (k := 4) rfl Bo1213 (ints [1]) 1 (ints_len1 rfl)
                  have S1336 := S1335.cellsEq (k := 4) (us' := ints (xs1216 ++ [1])) (ints_app _ _) rfl
                  have BS1336 : Sb p1332 ((xs1216 ++ [1]).length) c1333 1 := (show xs1216.length + 1 = (xs1216 ++ [1]).length from len_app (a := xs1216) (b := [1]) rfl rfl) ▸ Bp1332
                  have S1337 := S1336.drop 0 rfl
                  refine AO.c rfl (s_app (by_ := 8) (us := ints xs1216) (vs := ints [1]) Try.underlying68 Try.underlying68 Try.typeInfo2 Try.sizeOf2 Try.zeroValue2 rfl rfl rfl rfl rfl rfl rfl (S1328.buf (k := 4) rfl Bo1213 (ints_len1 rfl)) (S1328.oview (k := 0) rfl (Sb.lit (n := 1) (by decide)) (ints_len1 rfl)) (ints_len1 rfl) ints_one k1330 haG1334 (show xs1216.length + 1 = (xs1216 ++ [1]).length from len_app (a := xs1216) (b := [1]) rfl rfl)) ?_
                  refine AO.p rfl (p_assign rfl) ?_
                  refine AO.nil ?_
                  refine AX.region ?_
                  refine AO.p rfl (p_move rfl) ?_
                  obtain ⟨k1338, hd1339⟩ := chk_some hd1331
                  refine AO.p rfl (p_addE rfl rfl k1338) ?_
                  refine AO.p rfl (p_assign rfl) ?_
                  refine AO.nil ?_
                  obtain rfl := some_inj hd1339
                  have S1341 := S1337.front 3 rfl
                  have S1342 := S1341.front 3 rfl
                  have S1343 := S1342.front 3 rfl
                  have S1344 := S1343.front 3 rfl
                  exact ⟨((xs1216 ++ [1]), x1217 + 1), hk1291, (xs1216 ++ [1]), (x1217 + 1), p1332, c1333, rfl, S1344, BS1336, Sub.cons' rfl rfl (Sub.cons' rfl rfl (Sub.cons' rfl rfl (Sub.cons' rfl rfl (Sub.cons' rfl rfl (Sub.nil _)))))⟩
                · have hd1345 := bif_f c1324 hd1323
                  refine AX.region ?_
                  refine AO.p rfl (p_move rfl) ?_
                  obtain ⟨G1346, i1347, hii1347, hHG1346, S1348⟩ := S1292.new (AObj.row false (ints [0]))
                  refine AO.c rfl (s_buildInts (i := i1347) (vs := [(0, .int .i64 0)]) (xs := [0]) Try.underlying68 Try.sizeOf2 Try.zeroValue2 rfl rfl (by decide) rfl rfl hii1347 hHG1346) ?_
                  obtain ⟨k1350, hd1351⟩ := chk_some hd1345
                  obtain ⟨p1352, c1353, G1354, haG1354, S1355, Bp1352⟩ := S1348.app (k := 4) rfl Bo1213 (ints [0]) 1 (ints_len1 rfl)
                  have S1356 := S1355.cellsEq (k := 4) (us' := ints (xs1216 ++ [0])) (ints_app _ _) rfl
                  have BS1356 : Sb p1352 ((xs1216 ++ [0]).length) c1353 1 := (show xs1216.length + 1 = (xs1216 ++ [0]).length from len_app (a := xs1216) (b := [0]) rfl rfl) ▸ Bp1352
                  have S1357 := S1356.drop 0 rfl
                  refine AO.c rfl (s_app (by_ := 8) (us := ints xs1216) (vs := ints [0]) Try.underlying68 Try.underlying68 Try.typeInfo2 Try.sizeOf2 Try.zeroValue2 rfl rfl rfl rfl rfl rfl rfl (S1348.buf (k := 4) rfl Bo1213 (ints_len1 rfl)) (S1348.oview (k := 0) rfl (Sb.lit (n := 1) (by decide)) (ints_len1 rfl)) (ints_len1 rfl) ints_one k1350 haG1354 (show xs1216.length + 1 = (xs1216 ++ [0]).length from len_app (a := xs1216) (b := [0]) rfl rfl)) ?_
                  refine AO.p rfl (p_assign rfl) ?_
                  refine AO.nil ?_
                  refine AX.region ?_
                  refine AO.p rfl (p_move rfl) ?_
                  obtain ⟨k1358, hd1359⟩ := chk_some hd1351
                  refine AO.p rfl (p_addE rfl rfl k1358) ?_
                  refine AO.p rfl (p_assign rfl) ?_
                  refine AO.nil ?_
                  obtain rfl := some_inj hd1359
                  have S1361 := S1357.front 3 rfl
                  have S1362 := S1361.front 3 rfl
                  have S1363 := S1362.front 3 rfl
                  have S1364 := S1363.front 3 rfl
                  exact ⟨((xs1216 ++ [0]), x1217 + 1), hk1291, (xs1216 ++ [0]), (x1217 + 1), p1352, c1353, rfl, S1364, BS1356, Sub.cons' rfl rfl (Sub.cons' rfl rfl (Sub.cons' rfl rfl (Sub.cons' rfl rfl (Sub.cons' rfl rfl (Sub.nil _)))))⟩
            · have hd1365 := bif_f c1296 ho1290
              refine AX.exit ?_
              obtain rfl := some_inj hd1365
              have S1366 := S1292.front 3 rfl
              have S1367 := S1366.front 3 rfl
              have S1368 := S1367.front 3 rfl
              have S1369 := S1368.front 3 rfl
              exact ⟨xs1216, p1214, c1215, hk1291, S1369, Bo1213, Sub.cons' rfl rfl (Sub.cons' rfl rfl (Sub.cons' rfl rfl (Sub.cons' rfl rfl (Sub.nil _))))⟩
        · rintro t' G1371 ⟨xs1281, p1279, c1280, rfl, S1370, Bo1278, hsub1372⟩
          refine AX.sub hsub1372 ?_
          refine AX.region ?_
          refine AO.p rfl (p_move rfl) ?_
          refine AO.p rfl (p_move rfl) ?_
          obtain ⟨G1373, i1374, hii1374, hHG1373, S1375⟩ := S1370.new (AObj.row false (tcells [(p1279, c1280, xs1281)]))
          have S1377 := (S1375.front 4 rfl).tone p1279 c1280 xs1281 rfl
          refine AO.c rfl (s_buildT1 (i := i1374) (X := [(p1279, c1280, xs1281)]) (n := xs1281.length) rfl Try.underlying22 Try.sizeOf68 Try.zeroValue68 rfl rfl hii1374 hHG1373) ?_
          obtain ⟨k1378, hd1379⟩ := chk_some hd1284
          obtain ⟨p1380, c1381, G1382, haG1382, S1383, Bp1380⟩ := S1377.app (k := 3) rfl Bo744 (tcells [(p1279, c1280, xs1281)]) 1 (tc_len1 rfl rfl)
          have S1384 := S1383.cellsEq (k := 3) (us' := tcells (T748 ++ [(p1279, c1280, xs1281)])) (tcells_app _ _).symm rfl
          have BS1384 : Sb p1380 ((rs747 ++ [xs1281]).length) c1381 1 := (show rs747.length + 1 = (rs747 ++ [xs1281]).length from len_app (a := rs747) (b := [xs1281]) rfl rfl) ▸ Bp1380
          have S1385 := S1384.front 0 rfl
          have S1386 := (S1385.front 4 rfl).tmerge
          have S1387 := S1386.drop 1 rfl
          refine AO.c rfl (s_app (by_ := 24) (us := tcells T748) (vs := tcells [(p1279, c1280, xs1281)]) Try.underlying22 Try.underlying22 Try.typeInfo68 Try.sizeOf68 Try.zeroValue68 rfl rfl rfl rfl rfl rfl rfl (S1377.buf (k := 3) rfl Bo744 (tc_len1 tT748 rfl)) (S1377.oview (k := 1) rfl (Sb.lit (n := 1) (by decide)) (tc_len1 rfl rfl)) (tc_len1 rfl rfl) tcells_one k1378 haG1382 (show rs747.length + 1 = (rs747 ++ [xs1281]).length from len_app (a := rs747) (b := [xs1281]) rfl rfl)) ?_
          refine AO.p rfl (p_assign rfl) ?_
          refine AO.nil ?_
          refine AX.region ?_
          refine AO.p rfl (p_move rfl) ?_
          obtain ⟨k1388, hd1389⟩ := chk_some hd1379
          refine AO.p rfl (p_addE rfl rfl k1388) ?_
          refine AO.p rfl (p_assign rfl) ?_
          refine AO.nil ?_
          obtain rfl := some_inj hd1389
          have S1391 := S1387.front 0 rfl
          have S1392 := S1391.front 2 rfl
          have S1393 := S1392.front 2 rfl
          exact ⟨((rs747 ++ [xs1281]), x749 + 1), hk1076, (rs747 ++ [xs1281]), (x749 + 1), p1380, c1381, (T748 ++ [(p1279, c1280, xs1281)]), rfl, S1393, (trows_apps tT748 rfl), (TSb.app sT748 (TSb.one (sb_len rfl Bo1278))), BS1384, Sub.cons' rfl rfl (Sub.cons' rfl rfl (Sub.cons' rfl rfl (Sub.nil _)))⟩
      · have hd1394 := bif_f c1081 ho1075
        refine AX.exit ?_
        obtain rfl := some_inj hd1394
        have S1395 := S1077.front 2 rfl
        have S1396 := S1395.front 2 rfl
        have S1397 := S1396.keep 2
        exact ⟨rs747, p745, c746, T748, hk1076, S1397, tT748, sT748, Bo744, Sub.cons' rfl rfl (Sub.nil _)⟩
  · rintro t' G1399 ⟨rs1066, p1064, c1065, T1067, rfl, S1398, tT1067, sT1067, Bo1063, hsub1400⟩
    refine AX.sub hsub1400 ?_
    refine AX.seq ?_
    refine AX.region ?_
    refine AO.p rfl (p_move rfl) ?_
    refine AO.p rfl (p_assign rfl) ?_
    refine AO.nil ?_
    refine AX.ret ?_
    obtain rfl := some_inj hd1070
    have S1401 := S1398.front 1 rfl
    have S1402 := S1401.front 1 rfl
    exact ⟨.inr rfl, _, res1 rfl (rv_tmp rfl), p1064, c1065, T1067, rfl, S1402, Bo1063, tT1067, sT1067⟩

set_option maxHeartbeats 4000000 in
theorem W_spec_FirstVenues (fu : Nat) (H : AHeap) (a0_0 : Int) (p_a0_1 : Option Addr) (c_a0_1 : Nat) (a0_1 : List (List Int)) (a_a0_1 : All 14 a0_1) (v_a0_1 : Vw H p_a0_1 a0_1.length c_a0_1 (ints a0_1.flatten)) (r0 : List (List Int)) (r1 : Int) (hd : D_spec_FirstVenues fu a0_0 a0_1 = some (r0, r1)) : ∃ v G', ACall Try.prog 29 [.agg [.int .i64 a0_0, .slice p_a0_1 a0_1.length c_a0_1].toArray] H v G' ∧ ∃ (p_r0 : Option Addr) (c_r0 : Nat) (T_r0 : Tb), (v = .tuple #[.slice p_r0 r0.length c_r0, .int .i64 r1]) ∧ St [] H G' [oseg p_r0 (tcells T_r0), tseg T_r0] ∧ Sb p_r0 r0.length c_r0 1 ∧ trows T_r0 = r0 ∧ TSb T_r0 := by
  refine ACall.bodyX (args := [.agg [.int .i64 a0_0, .slice p_a0_1 a0_1.length c_a0_1].toArray]) (N := 9) [(0, .agg [.int .i64 a0_0, .slice p_a0_1 a0_1.length c_a0_1].toArray)] (fun v G' => ∃ (p_r0 : Option Addr) (c_r0 : Nat) (T_r0 : Tb), (v = .tuple #[.slice p_r0 r0.length c_r0, .int .i64 r1]) ∧ St [] H G' [oseg p_r0 (tcells T_r0), tseg T_r0] ∧ Sb p_r0 r0.length c_r0 1 ∧ trows T_r0 = r0 ∧ TSb T_r0) Try.func29 rfl rfl rfl rfl ?_
  unfold D_spec_FirstVenues at hd
  have S0 : St [] H H [] := St.nil H
  refine AX.seq ?_
  refine AX.region ?_
  obtain ⟨G100, i101, hii101, hHG100, S102⟩ := S0.new (AObj.row false ([.int .i64 a0_0, .slice p_a0_1 a0_1.length c_a0_1]))
  refine AO.c rfl (s_box (i := i101) (cs := [.int .i64 a0_0, .slice p_a0_1 a0_1.length c_a0_1]) rfl hii101 rfl hHG100) ?_
  refine AO.p rfl (p_assign rfl) ?_
  refine AO.p rfl (p_assign rfl) ?_
  refine AO.nil ?_
  refine AX.seq ?_
  refine AX.seq ?_
  refine AX.region ?_
  refine AO.c rfl (s_loadN (vs := [.int .i64 a0_0, .slice p_a0_1 a0_1.length c_a0_1]) Try.isAgg39 Try.sizeOf39 rfl rfl (row_cells (S102.get (k := 0) rfl))) ?_
  obtain ⟨b104, h105, hd106⟩ := bnd_some hd
  refine AO.c rfl (o_call (vs := [.agg [.int .i64 a0_0, .slice p_a0_1 a0_1.length c_a0_1].toArray]) rfl Try.call63 (W_spec_l01Is fu G100 a0_0 p_a0_1 c_a0_1 a0_1 a_a0_1 (S102.view v_a0_1) b104 h105)) ?_
  refine AO.p rfl (p_not rfl) ?_
  refine AO.nil ?_
  refine AX.cond rfl (fun c108 => ?_) (fun c108 => ?_)
  · have hd109 := bif_t c108 hd106
    refine AX.seq ?_
    refine AX.region ?_
    refine AO.p rfl (p_assign rfl) ?_
    refine AO.p rfl (p_assign rfl) ?_
    refine AO.nil ?_
    refine AX.ret ?_
    obtain ⟨rfl, rfl⟩ := Prod.mk.inj (some_inj hd109)
    have S111 : St [] H G100 (tseg [] :: _) := S102.nilseg 0
    have S112 : St [] H G100 (oseg none (tcells []) :: _) := S111.nilseg 0
    have S113 := S112.keep 2
    exact ⟨.inr rfl, _, res2 rfl (rv_tmp rfl) (rv_tmp rfl), none, 0, [], rfl, S113, Sb.nil, rfl, TSb.nil⟩
  · have hd114 := bif_f c108 hd106
    refine AX.skip ?_
    refine AX.seq ?_
    refine AX.region ?_
    refine AO.c rfl (s_loadN (vs := [.int .i64 a0_0, .slice p_a0_1 a0_1.length c_a0_1]) Try.isAgg39 Try.sizeOf39 rfl rfl (row_cells (S102.get (k := 0) rfl))) ?_
    obtain ⟨rs115, h116, hd117⟩ := bnd_some hd114
    obtain ⟨_, G126, hc125, p118, c119, T122, rfl, S127, B121, t123, s124⟩ := W_spec_l05First fu G100 a0_0 p_a0_1 c_a0_1 a0_1 a_a0_1 (S102.view v_a0_1) rs115 h116
    have S128 := S102.call S127
    refine AO.c rfl (o_call (vs := [.agg [.int .i64 a0_0, .slice p_a0_1 a0_1.length c_a0_1].toArray]) rfl Try.call72 hc125) ?_
    refine AO.p rfl (p_assign rfl) ?_
    refine AO.p rfl (p_assign rfl) ?_
    refine AO.nil ?_
    refine AX.ret ?_
    obtain ⟨rfl, rfl⟩ := Prod.mk.inj (some_inj hd117)
    have S130 := S128.front 1 rfl
    have S131 := S130.front 1 rfl
    have S132 := S131.keep 2
    exact ⟨.inr rfl, _, res2 rfl (rv_tmp rfl) (rv_tmp rfl), p118, c119, T122, rfl, S132, B121, t123, s124⟩

set_option maxHeartbeats 4000000 in
theorem W_impl_Schedule_firstVenues (fu : Nat) (H : AHeap) (a0_0 : Int) (p_a0_1 : Option Addr) (c_a0_1 : Nat) (a0_1 : List (List Int)) (a_a0_1 : All 14 a0_1) (v_a0_1 : Vw H p_a0_1 a0_1.length c_a0_1 (ints a0_1.flatten)) (r0 : List (List Int)) (hd : D_impl_Schedule_firstVenues fu a0_0 a0_1 = some r0) : ∃ v G', ACall Try.prog 75 [.agg [.int .i64 a0_0, .slice p_a0_1 a0_1.length c_a0_1].toArray] H v G' ∧ ∃ (p_r0 : Option Addr) (c_r0 : Nat) (T_r0 : Tb), (v = .slice p_r0 r0.length c_r0) ∧ St [] H G' [oseg p_r0 (tcells T_r0), tseg T_r0] ∧ Sb p_r0 r0.length c_r0 1 ∧ trows T_r0 = r0 ∧ TSb T_r0 := by
  refine ACall.bodyX (args := [.agg [.int .i64 a0_0, .slice p_a0_1 a0_1.length c_a0_1].toArray]) (N := 49) [(0, .agg [.int .i64 a0_0, .slice p_a0_1 a0_1.length c_a0_1].toArray)] (fun v G' => ∃ (p_r0 : Option Addr) (c_r0 : Nat) (T_r0 : Tb), (v = .slice p_r0 r0.length c_r0) ∧ St [] H G' [oseg p_r0 (tcells T_r0), tseg T_r0] ∧ Sb p_r0 r0.length c_r0 1 ∧ trows T_r0 = r0 ∧ TSb T_r0) Try.func75 rfl rfl rfl rfl ?_
  unfold D_impl_Schedule_firstVenues at hd
  have S0 : St [] H H [] := St.nil H
  refine AX.seq ?_
  refine AX.region ?_
  obtain ⟨G100, i101, hii101, hHG100, S102⟩ := S0.new (AObj.row false ([.int .i64 a0_0, .slice p_a0_1 a0_1.length c_a0_1]))
  refine AO.c rfl (s_box (i := i101) (cs := [.int .i64 a0_0, .slice p_a0_1 a0_1.length c_a0_1]) rfl hii101 rfl hHG100) ?_
  refine AO.p rfl (p_assign rfl) ?_
  refine AO.nil ?_
  refine AX.seq ?_
  refine AX.region ?_
  obtain ⟨G104, i105, hii105, hHG104, S106⟩ := S102.new (AObj.row false (tcells []))
  have S106t := S106.nilseg 1
  refine AO.c rfl (s_build0 (i := i105) Try.underlying22 Try.sizeOf68 hii105 hHG104) ?_
  refine AO.p rfl (p_assign rfl) ?_
  refine AO.nil ?_
  refine AX.seq ?_
  refine AX.seq ?_
  refine AX.region ?_
  refine AO.p rfl (s_fieldAddr Try.underlying39 rfl Try.sizeOf37 (by decide) rfl rfl) ?_
  refine AO.c rfl (s_load Try.isAgg37 rfl (row_cell (S106t.get (k := 2) rfl) rfl)) ?_
  refine AO.p rfl (p_len_slice rfl Try.underlying37) ?_
  refine AO.p rfl (p_move rfl) ?_
  refine AO.nil ?_
  obtain ⟨r762, hl763, hd764⟩ := bnd_some hd
  refine AX.cutQ (fun t' H' => ∃ (rs760 : List (List Int)) (p758 : Option Addr) (c759 : Nat) (T761 : Tb), rs760 = r762 ∧ St [] H H' [oseg p758 (tcells T761), tseg T761] ∧ trows T761 = rs760 ∧ TSb T761 ∧ Sb p758 (rs760.length) c759 1 ∧ Am.Sub [(3, .slice p758 rs760.length c759)] t') ?_ ?_
  · refine AX.block ?_
    refine AX.loopF (fun s' t' H' => ∃ (rs543 : List (List Int)) (x545 : Int) (p541 : Option Addr) (c542 : Nat) (T544 : Tb), (rs543, x545) = s' ∧ St [] H H' [[(i101, AObj.row false ([.int .i64 a0_0, .slice p_a0_1 a0_1.length c_a0_1]))], oseg p541 (tcells T544), tseg T544] ∧ trows T544 = rs543 ∧ TSb T544 ∧ Sb p541 (rs543.length) c542 1 ∧ Am.Sub [(1, .pointer (some ⟨i101, 0, none⟩)), (3, .slice p541 rs543.length c542), (10, .slice p_a0_1 a0_1.length c_a0_1), (11, .int .i64 ((a0_1.length : Nat) : Int)), (12, .int .i64 x545)] t') hl763 ?_ ?_
    · skip
      have S765 := S106t.front 1 rfl
      have S766 := S765.front 1 rfl
      have S767 := S766.front 2 rfl
      exact ⟨[], 0, (some (Addr.mk i105 0 none)), 0, [], rfl, S767, rfl, TSb.nil, (Sb.lit (n := 0) (by decide)), Sub.cons' rfl rfl (Sub.cons' rfl rfl (Sub.cons' rfl rfl (Sub.cons' rfl rfl (Sub.cons' rfl rfl (Sub.nil _)))))⟩
    · rintro n768 _ t' G772 ⟨rs543, x545, p541, c542, T544, rfl, S771, tT544, sT544, Bo540, hsub773⟩ o774 ho769 hk770
      refine AX.sub hsub773 ?_
      unfold D_impl_Schedule_firstVenues_s0 at ho769
      refine AX.seq ?_
      refine AX.region ?_
      refine AO.p rfl (p_lss rfl rfl) ?_
      refine AO.nil ?_
      refine AX.seq ?_
      refine AX.cond rfl (fun c775 => ?_) (fun c775 => ?_)
      · have hd776 := bif_t c775 ho769
        refine AX.skip ?_
        refine AX.seq ?_
        refine AX.block ?_
        refine AX.seq ?_
        refine AX.region ?_
        obtain ⟨k777, hd778⟩ := chk_some hd776
        refine AO.p rfl (s_indexV (q := off p_a0_1 + x545.toNat * 14) Try.underlying37 Try.sizeOf65 rfl ((S771.view v_a0_1).rowne a_a0_1 (by decide) (lt_len rfl (inR_lt k777))) rfl k777 rfl) ?_
        refine AO.c rfl (s_loadN (vs := ints (rw_ a0_1 x545.toNat)) Try.isAgg65 Try.sizeOf65 rfl (ints_len (rw_len a_a0_1 (lt_len rfl (inR_lt k777)))) ((S771.view v_a0_1).row a_a0_1 (lt_len rfl (inR_lt k777)))) ?_
        obtain ⟨G779, i780, hii780, hHG779, S781⟩ := S771.new (AObj.row false (ints (List.replicate 14 0)))
        refine AO.c rfl (s_alloc (i := i780) (cs := ints (List.replicate 14 0)) Try.zeroValue65 rfl rfl hii780 hHG779) ?_
        obtain ⟨G783, hHG783, S784⟩ := S781.set (k := 0) (i := i780) rfl (AObj.row false (ints (rw_ a0_1 x545.toNat)))
        refine AO.s (s_storeAll (vs := ints (rw_ a0_1 x545.toNat)) Try.sizeOf65 rfl rfl ints_one (S781.get (k := 0) rfl) (ints_len (rw_len a_a0_1 (lt_len rfl (inR_lt k777)))) (ints_len len_rep) hHG783) ?_
        refine AO.nil ?_
        refine AX.seq ?_
        refine AX.region ?_
        refine AO.p rfl (s_fieldAddr Try.underlying39 rfl Try.sizeOf2 (by decide) rfl rfl) ?_
        refine AO.c rfl (s_load Try.isAgg2 rfl (row_cell (S784.get (k := 1) rfl) rfl)) ?_
        obtain ⟨k785, hd786⟩ := chk_some hd778
        obtain ⟨G787, i788, hii788, hHG787, S789⟩ := S784.new (AObj.row false (ints (List.replicate a0_0.toNat 0)))
        refine AO.c rfl (s_makeIntsE (i := i788) (by_ := 8) Try.underlying68 Try.typeInfo2 Try.sizeOf2 Try.zeroValue2 rfl rfl rfl rfl rfl k785 hii788 hHG787) ?_
        refine AO.p rfl (p_assign rfl) ?_
        refine AO.nil ?_
        refine AX.seq ?_
        refine AX.seq ?_
        refine AX.region ?_
        refine AO.p rfl (s_fieldAddr Try.underlying39 rfl Try.sizeOf2 (by decide) rfl rfl) ?_
        refine AO.c rfl (s_load Try.isAgg2 rfl (row_cell (S789.get (k := 2) rfl) rfl)) ?_
        refine AO.p rfl (p_move rfl) ?_
        refine AO.nil ?_
        obtain ⟨r897, hl898, hd899⟩ := bnd_some hd786
        refine AX.cutQ (fun t' H' => ∃ (xs896 : List Int), xs896 = r897 ∧ St [] H H' [[(i101, AObj.row false ([.int .i64 a0_0, .slice p_a0_1 a0_1.length c_a0_1]))], oseg p541 (tcells T544), tseg T544, [(i788, AObj.row false (ints xs896))]] ∧ xs896.length = a0_0.toNat ∧ Am.Sub [(1, .pointer (some ⟨i101, 0, none⟩)), (3, .slice p541 rs543.length c542), (6, .slice (some (Addr.mk i788 0 none)) a0_0.toNat a0_0.toNat), (10, .slice p_a0_1 a0_1.length c_a0_1), (11, .int .i64 ((a0_1.length : Nat) : Int)), (12, .int .i64 x545)] t') ?_ ?_
        · refine AX.block ?_
          refine AX.loopF (fun s' t' H' => ∃ (xs861 : List Int) (x862 : Int), (xs861, x862) = s' ∧ St [] H H' [[(i101, AObj.row false ([.int .i64 a0_0, .slice p_a0_1 a0_1.length c_a0_1]))], oseg p541 (tcells T544), tseg T544, [(i780, AObj.row false (ints (rw_ a0_1 x545.toNat)))], [(i788, AObj.row false (ints xs861))]] ∧ xs861.length = a0_0.toNat ∧ Am.Sub [(1, .pointer (some ⟨i101, 0, none⟩)), (3, .slice p541 rs543.length c542), (5, .pointer (some ⟨i780, 0, none⟩)), (6, .slice (some (Addr.mk i788 0 none)) a0_0.toNat a0_0.toNat), (10, .slice p_a0_1 a0_1.length c_a0_1), (11, .int .i64 ((a0_1.length : Nat) : Int)), (12, .int .i64 x545), (20, .int .i64 a0_0), (21, .int .i64 x862)] t') hl898 ?_ ?_
          · skip
            have S900 := S789.front 0 rfl
            have S901 := S900.front 1 rfl
            have S902 := S901.front 4 rfl
            have S903 := S902.front 4 rfl
            have S904 := S903.front 4 rfl
            exact ⟨(List.replicate a0_0.toNat 0), 0, rfl, S904, len_rep, Sub.cons' rfl rfl (Sub.cons' rfl rfl (Sub.cons' rfl rfl (Sub.cons' rfl rfl (Sub.cons' rfl rfl (Sub.cons' rfl rfl (Sub.cons' rfl rfl (Sub.cons' rfl rfl (Sub.cons' rfl rfl (Sub.nil _)))))))))⟩
          · rintro n905 _ t' G909 ⟨xs861, x862, rfl, S908, lxs861, hsub910⟩ o911 ho906 hk907
            refine AX.sub hsub910 ?_
            unfold D_impl_Schedule_firstVenues_s1 at ho906
            refine AX.seq ?_
            refine AX.region ?_
            refine AO.p rfl (p_lss rfl rfl) ?_
            refine AO.nil ?_
            refine AX.seq ?_
            refine AX.cond rfl (fun c912 => ?_) (fun c912 => ?_)
            · have hd913 := bif_t c912 ho906
              refine AX.skip ?_
              refine AX.seq ?_
              refine AX.block ?_
              refine AX.seq ?_
              refine AX.region ?_
              refine AO.p rfl (p_move rfl) ?_
              refine AO.p rfl (p_assign rfl) ?_
              refine AO.nil ?_
              refine AX.block ?_
              refine AX.seq ?_
              refine AX.region ?_
              refine AO.p rfl (p_move rfl) ?_
              obtain ⟨k914, hd915⟩ := chk_some hd913
              refine AO.p rfl (s_indexAr (q := x862.toNat) Try.underlying65 Try.sizeOf2 rfl rfl k914 (z1 _)) ?_
              refine AO.c rfl (s_load Try.isAgg2 rfl (row_cell (S908.get (k := 3) rfl) (ints_get (lt_len (rw_len a_a0_1 (lt_len rfl (inR_lt k777))) (inR_lt k914))))) ?_
              refine AO.p rfl (p_move rfl) ?_
              refine AO.p rfl (p_eql rfl rfl) ?_
              refine AO.p rfl (p_assign rfl) ?_
              refine AO.nil ?_
              refine AX.cond rfl (fun c916 => ?_) (fun c916 => ?_)
              · have hd917 := bif_t c916 hd915
                refine AX.region ?_
                refine AO.p rfl (p_move rfl) ?_
                refine AO.p rfl (p_move rfl) ?_
                obtain ⟨k918, hd919⟩ := chk_some hd917
                refine AO.p rfl (s_indexV (q := x862.toNat) Try.underlying68 Try.sizeOf2 rfl rfl rfl k918 (z1 _)) ?_
                obtain ⟨G920, hHG920, S921⟩ := S908.set (k := 4) (i := i788) rfl (AObj.row false (ints (xs861.set x862.toNat (-1))))
                refine AO.s (s_store Try.sizeOf2 rfl rfl rfl (S908.get (k := 4) rfl) (lt_len (ints_len lxs861) (inR_lt k918)) ((congrArg (fun l => List.set _ _ (AObj.row false l)) (ints_set _ _ _)).trans hHG920)) ?_
                refine AO.nil ?_
                refine AX.region ?_
                obtain ⟨k922, hd923⟩ := chk_some hd919
                refine AO.p rfl (p_addE rfl rfl k922) ?_
                refine AO.p rfl (p_move rfl) ?_
                refine AO.nil ?_
                obtain rfl := some_inj hd923
                have S925 := S921.front 4 rfl
                have S926 := S925.front 4 rfl
                have S927 := S926.front 4 rfl
                have S928 := S927.front 4 rfl
                have S929 := S928.front 4 rfl
                exact ⟨((xs861.set x862.toNat (-1)), x862 + 1), hk907, (xs861.set x862.toNat (-1)), (x862 + 1), rfl, S929, (len_set lxs861), Sub.cons' rfl rfl (Sub.cons' rfl rfl (Sub.cons' rfl rfl (Sub.cons' rfl rfl (Sub.cons' rfl rfl (Sub.cons' rfl rfl (Sub.cons' rfl rfl (Sub.cons' rfl rfl (Sub.cons' rfl rfl (Sub.nil _)))))))))⟩
              · have hd930 := bif_f c916 hd915
                refine AX.seq ?_
                refine AX.region ?_
                refine AO.p rfl (p_move rfl) ?_
                refine AO.p rfl (p_move rfl) ?_
                obtain ⟨k931, hd932⟩ := chk_some hd930
                refine AO.p rfl (s_indexAr (q := x862.toNat) Try.underlying65 Try.sizeOf2 rfl rfl k931 (z1 _)) ?_
                refine AO.c rfl (s_load Try.isAgg2 rfl (row_cell (S908.get (k := 3) rfl) (ints_get (lt_len (rw_len a_a0_1 (lt_len rfl (inR_lt k777))) (inR_lt k931))))) ?_
                refine AO.p rfl (p_lss rfl rfl) ?_
                refine AO.p rfl (p_assign rfl) ?_
                refine AO.nil ?_
                refine AX.cond rfl (fun c933 => ?_) (fun c933 => ?_)
                · have hd934 := bif_t c933 hd932
                  refine AX.region ?_
                  refine AO.p rfl (p_move rfl) ?_
                  refine AO.p rfl (p_move rfl) ?_
                  obtain ⟨k935, hd936⟩ := chk_some hd934
                  refine AO.p rfl (s_indexV (q := x862.toNat) Try.underlying68 Try.sizeOf2 rfl rfl rfl k935 (z1 _)) ?_
                  obtain ⟨G937, hHG937, S938⟩ := S908.set (k := 4) (i := i788) rfl (AObj.row false (ints (xs861.set x862.toNat 1)))
                  refine AO.s (s_store Try.sizeOf2 rfl rfl rfl (S908.get (k := 4) rfl) (lt_len (ints_len lxs861) (inR_lt k935)) ((congrArg (fun l => List.set _ _ (AObj.row false l)) (ints_set _ _ _)).trans hHG937)) ?_
                  refine AO.nil ?_
                  refine AX.region ?_
                  obtain ⟨k939, hd940⟩ := chk_some hd936
                  refine AO.p rfl (p_addE rfl rfl k939) ?_
                  refine AO.p rfl (p_move rfl) ?_
                  refine AO.nil ?_
                  obtain rfl := some_inj hd940
                  have S942 := S938.front 4 rfl
                  have S943 := S942.front 4 rfl
                  have S944 := S943.front 4 rfl
                  have S945 := S944.front 4 rfl
                  have S946 := S945.front 4 rfl
                  exact ⟨((xs861.set x862.toNat 1), x862 + 1), hk907, (xs861.set x862.toNat 1), (x862 + 1), rfl, S946, (len_set lxs861), Sub.cons' rfl rfl (Sub.cons' rfl rfl (Sub.cons' rfl rfl (Sub.cons' rfl rfl (Sub.cons' rfl rfl (Sub.cons' rfl rfl (Sub.cons' rfl rfl (Sub.cons' rfl rfl (Sub.cons' rfl rfl (Sub.nil _)))))))))⟩
                · have hd947 := bif_f c933 hd932
                  refine AX.skip ?_
                  refine AX.region ?_
                  obtain ⟨k948, hd949⟩ := chk_some hd947
                  refine AO.p rfl (p_addE rfl rfl k948) ?_
                  refine AO.p rfl (p_move rfl) ?_
                  refine AO.nil ?_
                  obtain rfl := some_inj hd949
                  have S951 := S908.front 4 rfl
                  have S952 := S951.front 4 rfl
                  have S953 := S952.front 4 rfl
                  have S954 := S953.front 4 rfl
                  have S955 := S954.front 4 rfl
                  exact ⟨(xs861, x862 + 1), hk907, xs861, (x862 + 1), rfl, S955, lxs861, Sub.cons' rfl rfl (Sub.cons' rfl rfl (Sub.cons' rfl rfl (Sub.cons' rfl rfl (Sub.cons' rfl rfl (Sub.cons' rfl rfl (Sub.cons' rfl rfl (Sub.cons' rfl rfl (Sub.cons' rfl rfl (Sub.nil _)))))))))⟩
            · have hd956 := bif_f c912 ho906
              refine AX.exit ?_
              obtain rfl := some_inj hd956
              have S957 := S908.front 4 rfl
              have S958 := S957.front 3 rfl
              have S959 := S958.front 3 rfl
              have S960 := S959.front 3 rfl
              have S961 := S960.keep 4
              exact ⟨xs861, hk907, S961, lxs861, Sub.cons' rfl rfl (Sub.cons' rfl rfl (Sub.cons' rfl rfl (Sub.cons' rfl rfl (Sub.cons' rfl rfl (Sub.cons' rfl rfl (Sub.nil _))))))⟩
        · rintro t' G963 ⟨xs896, rfl, S962, lxs896, hsub964⟩
          refine AX.sub hsub964 ?_
          refine AX.region ?_
          refine AO.p rfl (p_move rfl) ?_
          refine AO.p rfl (p_move rfl) ?_
          obtain ⟨G965, i966, hii966, hHG965, S967⟩ := S962.new (AObj.row false (tcells [((some (Addr.mk i788 0 none)), a0_0.toNat, xs896)]))
          have S969 := (S967.front 4 rfl).tone (some (Addr.mk i788 0 none)) a0_0.toNat xs896 rfl
          refine AO.c rfl (s_buildT1 (i := i966) (X := [((some (Addr.mk i788 0 none)), a0_0.toNat, xs896)]) (n := a0_0.toNat) lxs896 Try.underlying22 Try.sizeOf68 Try.zeroValue68 rfl rfl hii966 hHG965) ?_
          obtain ⟨k970, hd971⟩ := chk_some hd899
          obtain ⟨p972, c973, G974, haG974, S975, Bp972⟩ := S969.app (k := 3) rfl Bo540 (tcells [((some (Addr.mk i788 0 none)), a0_0.toNat, xs896)]) 1 (tc_len1 rfl rfl)
          have S976 := S975.cellsEq (k := 3) (us' := tcells (T544 ++ [((some (Addr.mk i788 0 none)), a0_0.toNat, xs896)])) (tcells_app _ _).symm rfl
          have BS976 : Sb p972 ((rs543 ++ [xs896]).length) c973 1 := (show rs543.length + 1 = (rs543 ++ [xs896]).length from len_app (a := rs543) (b := [xs896]) rfl rfl) ▸ Bp972
          have S977 := S976.front 0 rfl
          have S978 := (S977.front 4 rfl).tmerge
          have S979 := S978.drop 1 rfl
          refine AO.c rfl (s_app (by_ := 24) (us := tcells T544) (vs := tcells [((some (Addr.mk i788 0 none)), a0_0.toNat, xs896)]) Try.underlying22 Try.underlying22 Try.typeInfo68 Try.sizeOf68 Try.zeroValue68 rfl rfl rfl rfl rfl rfl rfl (S969.buf (k := 3) rfl Bo540 (tc_len1 tT544 rfl)) (S969.oview (k := 1) rfl (Sb.lit (n := 1) (by decide)) (tc_len1 rfl rfl)) (tc_len1 rfl rfl) tcells_one k970 haG974 (show rs543.length + 1 = (rs543 ++ [xs896]).length from len_app (a := rs543) (b := [xs896]) rfl rfl)) ?_
          refine AO.p rfl (p_assign rfl) ?_
          refine AO.nil ?_
          refine AX.region ?_
          obtain ⟨k980, hd981⟩ := chk_some hd971
          refine AO.p rfl (p_addE rfl rfl k980) ?_
          refine AO.p rfl (p_move rfl) ?_
          refine AO.nil ?_
          obtain rfl := some_inj hd981
          have S983 := S979.front 0 rfl
          have S984 := S983.front 2 rfl
          have S985 := S984.front 2 rfl
          exact ⟨((rs543 ++ [xs896]), x545 + 1), hk770, (rs543 ++ [xs896]), (x545 + 1), p972, c973, (T544 ++ [((some (Addr.mk i788 0 none)), a0_0.toNat, xs896)]), rfl, S985, (trows_apps tT544 rfl), (TSb.app sT544 (TSb.one (sb_len lxs896 (Sb.lit (mkcap k785))))), BS976, Sub.cons' rfl rfl (Sub.cons' rfl rfl (Sub.cons' rfl rfl (Sub.cons' rfl rfl (Sub.cons' rfl rfl (Sub.nil _)))))⟩
      · have hd986 := bif_f c775 ho769
        refine AX.exit ?_
        obtain rfl := some_inj hd986
        have S987 := S771.front 2 rfl
        have S988 := S987.front 2 rfl
        have S989 := S988.keep 2
        exact ⟨rs543, p541, c542, T544, hk770, S989, tT544, sT544, Bo540, Sub.cons' rfl rfl (Sub.nil _)⟩
  · rintro t' G991 ⟨rs760, p758, c759, T761, rfl, S990, tT761, sT761, Bo757, hsub992⟩
    refine AX.sub hsub992 ?_
    refine AX.seq ?_
    refine AX.region ?_
    refine AO.p rfl (p_move rfl) ?_
    refine AO.p rfl (p_assign rfl) ?_
    refine AO.nil ?_
    refine AX.ret ?_
    obtain rfl := some_inj hd764
    have S993 := S990.front 1 rfl
    have S994 := S993.front 1 rfl
    exact ⟨.inr rfl, _, res1 rfl (rv_tmp rfl), p758, c759, T761, rfl, S994, Bo757, tT761, sT761⟩

set_option maxHeartbeats 4000000 in
theorem W_impl_FirstVenues (fu : Nat) (H : AHeap) (a0_0 : Int) (p_a0_1 : Option Addr) (c_a0_1 : Nat) (a0_1 : List (List Int)) (a_a0_1 : All 14 a0_1) (v_a0_1 : Vw H p_a0_1 a0_1.length c_a0_1 (ints a0_1.flatten)) (r0 : List (List Int)) (r1 : Int) (hd : D_impl_FirstVenues fu a0_0 a0_1 = some (r0, r1)) : ∃ v G', ACall Try.prog 30 [.agg [.int .i64 a0_0, .slice p_a0_1 a0_1.length c_a0_1].toArray] H v G' ∧ ∃ (p_r0 : Option Addr) (c_r0 : Nat) (T_r0 : Tb), (v = .tuple #[.slice p_r0 r0.length c_r0, .int .i64 r1]) ∧ St [] H G' [oseg p_r0 (tcells T_r0), tseg T_r0] ∧ Sb p_r0 r0.length c_r0 1 ∧ trows T_r0 = r0 ∧ TSb T_r0 := by
  refine ACall.bodyX (args := [.agg [.int .i64 a0_0, .slice p_a0_1 a0_1.length c_a0_1].toArray]) (N := 12) [(0, .agg [.int .i64 a0_0, .slice p_a0_1 a0_1.length c_a0_1].toArray)] (fun v G' => ∃ (p_r0 : Option Addr) (c_r0 : Nat) (T_r0 : Tb), (v = .tuple #[.slice p_r0 r0.length c_r0, .int .i64 r1]) ∧ St [] H G' [oseg p_r0 (tcells T_r0), tseg T_r0] ∧ Sb p_r0 r0.length c_r0 1 ∧ trows T_r0 = r0 ∧ TSb T_r0) Try.func30 rfl rfl rfl rfl ?_
  unfold D_impl_FirstVenues at hd
  have S0 : St [] H H [] := St.nil H
  refine AX.seq ?_
  refine AX.region ?_
  obtain ⟨G100, i101, hii101, hHG100, S102⟩ := S0.new (AObj.row false ([.int .i64 a0_0, .slice p_a0_1 a0_1.length c_a0_1]))
  refine AO.c rfl (s_box (i := i101) (cs := [.int .i64 a0_0, .slice p_a0_1 a0_1.length c_a0_1]) rfl hii101 rfl hHG100) ?_
  refine AO.p rfl (p_assign rfl) ?_
  refine AO.p rfl (p_assign rfl) ?_
  refine AO.nil ?_
  refine AX.seq ?_
  refine AX.seq ?_
  refine AX.region ?_
  refine AO.c rfl (s_loadN (vs := [.int .i64 a0_0, .slice p_a0_1 a0_1.length c_a0_1]) Try.isAgg39 Try.sizeOf39 rfl rfl (row_cells (S102.get (k := 0) rfl))) ?_
  obtain ⟨x104, h105, hd106⟩ := bnd_some hd
  refine AO.c rfl (o_call (vs := [.agg [.int .i64 a0_0, .slice p_a0_1 a0_1.length c_a0_1].toArray, .func (.func 74) #[] #[]]) rfl Try.call73 (W_impl_scheduleCode fu G100 a0_0 p_a0_1 c_a0_1 a0_1 a_a0_1 (S102.view v_a0_1) 74 #[] #[] (fun _ => D_impl_always fu ) Try.call74 (fun G' hG  b' hb' => W_impl_always fu G'  b' hb') x104 h105)) ?_
  refine AO.p rfl (p_assign rfl) ?_
  refine AO.nil ?_
  refine AX.seq ?_
  refine AX.region ?_
  refine AO.p rfl (p_move rfl) ?_
  refine AO.p rfl (p_neq rfl rfl) ?_
  refine AO.nil ?_
  refine AX.cond rfl (fun c108 => ?_) (fun c108 => ?_)
  · have hd109 := bif_t c108 hd106
    refine AX.seq ?_
    refine AX.region ?_
    refine AO.p rfl (p_move rfl) ?_
    refine AO.p rfl (p_assign rfl) ?_
    refine AO.p rfl (p_assign rfl) ?_
    refine AO.nil ?_
    refine AX.ret ?_
    obtain ⟨rfl, rfl⟩ := Prod.mk.inj (some_inj hd109)
    have S111 : St [] H G100 (tseg [] :: _) := S102.nilseg 0
    have S112 : St [] H G100 (oseg none (tcells []) :: _) := S111.nilseg 0
    have S113 := S112.keep 2
    exact ⟨.inr rfl, _, res2 rfl (rv_tmp rfl) (rv_tmp rfl), none, 0, [], rfl, S113, Sb.nil, rfl, TSb.nil⟩
  · have hd114 := bif_f c108 hd106
    refine AX.skip ?_
    refine AX.seq ?_
    refine AX.region ?_
    refine AO.c rfl (s_loadN (vs := [.int .i64 a0_0, .slice p_a0_1 a0_1.length c_a0_1]) Try.isAgg39 Try.sizeOf39 rfl rfl (row_cells (S102.get (k := 0) rfl))) ?_
    obtain ⟨rs115, h116, hd117⟩ := bnd_some hd114
    obtain ⟨_, G126, hc125, p118, c119, T122, rfl, S127, B121, t123, s124⟩ := W_impl_Schedule_firstVenues fu G100 a0_0 p_a0_1 c_a0_1 a0_1 a_a0_1 (S102.view v_a0_1) rs115 h116
    have S128 := S102.call S127
    refine AO.c rfl (o_call (vs := [.agg [.int .i64 a0_0, .slice p_a0_1 a0_1.length c_a0_1].toArray]) rfl Try.call75 hc125) ?_
    refine AO.p rfl (p_assign rfl) ?_
    refine AO.p rfl (p_assign rfl) ?_
    refine AO.nil ?_
    refine AX.ret ?_
    obtain ⟨rfl, rfl⟩ := Prod.mk.inj (some_inj hd117)
    have S130 := S128.front 1 rfl
    have S131 := S130.front 1 rfl
    have S132 := S131.keep 2
    exact ⟨.inr rfl, _, res2 rfl (rv_tmp rfl) (rv_tmp rfl), p118, c119, T122, rfl, S132, B121, t123, s124⟩

set_option maxHeartbeats 4000000 in
theorem W_spec_l05Form (fu : Nat) (H : AHeap) (a0_0 : Int) (p_a0_1 : Option Addr) (c_a0_1 : Nat) (a0_1 : List (List Int)) (a_a0_1 : All 14 a0_1) (v_a0_1 : Vw H p_a0_1 a0_1.length c_a0_1 (ints a0_1.flatten)) (p_a1 : Option Addr) (c_a1 : Nat) (T_a1 : Tb) (a1 : List (List Int)) (t_a1 : trows T_a1 = a1) (v_a1 : Vw H p_a1 a1.length c_a1 (tcells T_a1)) (w_a1 : TVw H T_a1) (r0 : Int) (hd : D_spec_l05Form fu a0_0 a0_1 a1 = some r0) : ACall Try.prog 77 [.agg [.int .i64 a0_0, .slice p_a0_1 a0_1.length c_a0_1].toArray, .slice p_a1 a1.length c_a1] H (.int .i64 r0) H := by
  refine ACall.bodyP (N := 48) [(0, .agg [.int .i64 a0_0, .slice p_a0_1 a0_1.length c_a0_1].toArray), (1, .slice p_a1 a1.length c_a1)] Try.func77 rfl rfl rfl rfl ?_
  unfold D_spec_l05Form at hd
  have S0 : St [] H H [] := St.nil H
  refine AX.seq ?_
  refine AX.region ?_
  obtain ⟨G100, i101, hii101, hHG100, S102⟩ := S0.new (AObj.row false ([.int .i64 a0_0, .slice p_a0_1 a0_1.length c_a0_1]))
  refine AO.c rfl (s_box (i := i101) (cs := [.int .i64 a0_0, .slice p_a0_1 a0_1.length c_a0_1]) rfl hii101 rfl hHG100) ?_
  refine AO.p rfl (p_assign rfl) ?_
  refine AO.nil ?_
  refine AX.seq ?_
  refine AX.seq ?_
  refine AX.region ?_
  refine AO.c rfl (s_loadN (vs := [.int .i64 a0_0, .slice p_a0_1 a0_1.length c_a0_1]) Try.isAgg39 Try.sizeOf39 rfl rfl (row_cells (S102.get (k := 0) rfl))) ?_
  obtain ⟨b104, h105, hd106⟩ := bnd_some hd
  refine AO.c rfl (o_call (vs := [.agg [.int .i64 a0_0, .slice p_a0_1 a0_1.length c_a0_1].toArray]) rfl Try.call63 (W_spec_l01Is fu G100 a0_0 p_a0_1 c_a0_1 a0_1 a_a0_1 (S102.view v_a0_1) b104 h105)) ?_
  refine AO.p rfl (p_not rfl) ?_
  refine AO.nil ?_
  refine AX.cond rfl (fun c108 => ?_) (fun c108 => ?_)
  · have hd109 := bif_t c108 hd106
    refine AX.seq ?_
    refine AX.region ?_
    refine AO.p rfl (p_assign rfl) ?_
    refine AO.nil ?_
    refine AX.ret ?_
    obtain rfl := some_inj hd109
    exact ⟨.inr rfl, _, res1 rfl (rv_tmp rfl), rfl, (flatB_ok rfl), S102.hold⟩
  · have hd110 := bif_f c108 hd106
    refine AX.skip ?_
    refine AX.seq ?_
    refine AX.seq ?_
    refine AX.region ?_
    refine AO.p rfl (p_move rfl) ?_
    refine AO.p rfl (p_len_slice rfl Try.underlying22) ?_
    refine AO.p rfl (s_fieldAddr Try.underlying39 rfl Try.sizeOf37 (by decide) rfl rfl) ?_
    refine AO.c rfl (s_load Try.isAgg37 rfl (row_cell (S102.get (k := 0) rfl) rfl)) ?_
    refine AO.p rfl (p_len_slice rfl Try.underlying37) ?_
    refine AO.p rfl (p_neq rfl rfl) ?_
    refine AO.nil ?_
    refine AX.cond rfl (fun c111 => ?_) (fun c111 => ?_)
    · have hd112 := bif_t c111 hd110
      refine AX.seq ?_
      refine AX.region ?_
      refine AO.p rfl (p_assign rfl) ?_
      refine AO.nil ?_
      refine AX.ret ?_
      obtain rfl := some_inj hd112
      exact ⟨.inr rfl, _, res1 rfl (rv_tmp rfl), rfl, (flatB_ok rfl), S102.hold⟩
    · have hd113 := bif_f c111 hd110
      refine AX.skip ?_
      refine AX.seq ?_
      refine AX.seq ?_
      refine AX.region ?_
      refine AO.p rfl (p_assign rfl) ?_
      refine AO.nil ?_
      obtain ⟨r584, hl585, hd586⟩ := bnd_some hd113
      refine AX.cutQ (fun t' H' => .inl () = r584 ∧ St [] H H' [] ∧ Am.Sub [] t') ?_ ?_
      · refine AX.block ?_
        refine AX.loopF (fun s' t' H' => ∃ (x428 : Int), x428 = s' ∧ St [] H H' [[(i101, AObj.row false ([.int .i64 a0_0, .slice p_a0_1 a0_1.length c_a0_1]))]] ∧ Am.Sub [(1, .slice p_a1 a1.length c_a1), (2, .pointer (some ⟨i101, 0, none⟩)), (5, .int .i64 x428)] t') hl585 ?_ ?_
        · skip
          have S587 := S102.front 0 rfl
          exact ⟨0, rfl, S587, Sub.cons' rfl rfl (Sub.cons' rfl rfl (Sub.cons' rfl rfl (Sub.nil _)))⟩
        · rintro n588 _ t' G592 ⟨x428, rfl, S591, hsub593⟩ o594 ho589 hk590
          refine AX.sub hsub593 ?_
          unfold D_spec_l05Form_s0 at ho589
          refine AX.seq ?_
          refine AX.seq ?_
          refine AX.region ?_
          refine AO.p rfl (p_move rfl) ?_
          refine AO.p rfl (p_move rfl) ?_
          refine AO.p rfl (p_len_slice rfl Try.underlying22) ?_
          refine AO.p rfl (p_lss rfl rfl) ?_
          refine AO.nil ?_
          refine AX.cond rfl (fun c595 => ?_) (fun c595 => ?_)
          · have hd596 := bif_t c595 ho589
            refine AX.skip ?_
            refine AX.seq ?_
            refine AX.block ?_
            refine AX.seq ?_
            refine AX.seq ?_
            refine DR.startS [false, false, false, false, false, false, false, false] mix (by kernel_rfl) (fun hst => ?_)
            refine DR.p rfl rfl (p_move rfl) ?_
            refine DR.p rfl rfl (p_move rfl) ?_
            obtain ⟨k597, hd598⟩ := chk_some hd596
            obtain ⟨p599, c600, e601, f602⟩ := tget t_a1 (lt_len rfl (inR_lt k597))
            refine DR.p rfl rfl (s_indexV (q := off p_a1 + x428.toNat) Try.underlying22 Try.sizeOf68 rfl ((S591.view v_a1).p f602) rfl k597 (o1 _ _)) ?_
            refine DR.r rfl rfl (r_load rfl Try.isAgg68) (one_read ((S591.view v_a1).get _ _ f602) (TVw.at (S591.tview w_a1) e601).inn.bel) ?_
            refine DR.p rfl rfl (p_len_slice rfl Try.underlying68) ?_
            refine DR.p rfl rfl (s_fieldAddr Try.underlying39 rfl Try.sizeOf2 (by decide) rfl rfl) ?_
            refine DR.r rfl rfl (r_load rfl Try.isAgg2) (one_read (row_cell (S591.get (k := 0) rfl) rfl) (.of_flat0 rfl)) ?_
            refine DR.p rfl rfl (p_neq rfl rfl) ?_
            refine DR.nil 8 [] hst (by kernel_rfl) trivial ?_
            refine AX.cond rfl (fun c603 => ?_) (fun c603 => ?_)
            · have hd604 := bif_t c603 hd598
              refine AX.seq ?_
              refine AX.region ?_
              refine AO.p rfl (p_assign rfl) ?_
              refine AO.nil ?_
              refine AX.ret ?_
              obtain rfl := some_inj hd604
              have z605 : _ = r584 := hk590
              subst z605
              obtain rfl := some_inj hd586
              exact ⟨.inr rfl, _, res1 rfl (rv_tmp rfl), rfl, (flatB_ok rfl), S591.hold⟩
            · have hd606 := bif_f c603 hd598
              refine AX.skip ?_
              refine AX.seq ?_
              refine AX.region ?_
              refine AO.p rfl (p_assign rfl) ?_
              refine AO.nil ?_
              obtain ⟨r703, hl704, hd705⟩ := bnd_some hd606
              refine AX.cutQ (fun t' H' => .inl () = r703 ∧ St [] H H' [[(i101, AObj.row false ([.int .i64 a0_0, .slice p_a0_1 a0_1.length c_a0_1]))]] ∧ Am.Sub [(1, .slice p_a1 a1.length c_a1), (2, .pointer (some ⟨i101, 0, none⟩)), (5, .int .i64 x428)] t') ?_ ?_
              · refine AX.block ?_
                refine AX.loopF (fun s' t' H' => ∃ (x671 : Int), x671 = s' ∧ St [] H H' [[(i101, AObj.row false ([.int .i64 a0_0, .slice p_a0_1 a0_1.length c_a0_1]))]] ∧ Am.Sub [(1, .slice p_a1 a1.length c_a1), (2, .pointer (some ⟨i101, 0, none⟩)), (5, .int .i64 x428), (6, .int .i64 x671)] t') hl704 ?_ ?_
                · skip
                  have S706 := S591.front 0 rfl
                  exact ⟨0, rfl, S706, Sub.cons' rfl rfl (Sub.cons' rfl rfl (Sub.cons' rfl rfl (Sub.cons' rfl rfl (Sub.nil _))))⟩
                · rintro n707 _ t' G711 ⟨x671, rfl, S710, hsub712⟩ o713 ho708 hk709
                  refine AX.sub hsub712 ?_
                  unfold D_spec_l05Form_s1 at ho708
                  refine AX.seq ?_
                  refine AX.seq ?_
                  refine AX.region ?_
                  refine AO.p rfl (p_move rfl) ?_
                  refine AO.p rfl (p_move rfl) ?_
                  refine AO.p rfl (p_move rfl) ?_
                  obtain ⟨k714, hd715⟩ := chk_some ho708
                  obtain ⟨p716, c717, e718, f719⟩ := tget t_a1 (lt_len rfl (inR_lt k714))
                  refine AO.p rfl (s_indexV (q := off p_a1 + x428.toNat) Try.underlying22 Try.sizeOf68 rfl ((S710.view v_a1).p f719) rfl k714 (o1 _ _)) ?_
                  refine AO.c rfl (s_load Try.isAgg68 rfl ((S710.view v_a1).get _ _ f719)) ?_
                  refine AO.p rfl (p_len_slice rfl Try.underlying68) ?_
                  refine AO.p rfl (p_lss rfl rfl) ?_
                  refine AO.nil ?_
                  refine AX.cond rfl (fun c720 => ?_) (fun c720 => ?_)
                  · have hd721 := bif_t c720 hd715
                    refine AX.skip ?_
                    refine AX.seq ?_
                    refine AX.block ?_
                    refine AX.seq ?_
                    refine AX.region ?_
                    refine AO.p rfl (p_move rfl) ?_
                    refine AO.p rfl (p_move rfl) ?_
                    obtain ⟨k722, hd723⟩ := chk_some hd721
                    obtain ⟨p724, c725, e726, f727⟩ := tget t_a1 (lt_len rfl (inR_lt k722))
                    refine AO.p rfl (s_indexV (q := off p_a1 + x428.toNat) Try.underlying22 Try.sizeOf68 rfl ((S710.view v_a1).p f727) rfl k722 (o1 _ _)) ?_
                    refine AO.c rfl (s_load Try.isAgg68 rfl ((S710.view v_a1).get _ _ f727)) ?_
                    refine AO.p rfl (p_move rfl) ?_
                    obtain ⟨k728, hd729⟩ := chk_some hd723
                    refine AO.p rfl (s_indexV (q := off p724 + x671.toNat) Try.underlying68 Try.sizeOf2 rfl ((TVw.at (S710.tview w_a1) e726).p (ints_get (lt_len rfl (inR_lt k728)))) rfl k728 (o1 _ _)) ?_
                    refine AO.c rfl (s_load Try.isAgg2 rfl ((TVw.at (S710.tview w_a1) e726).get _ _ (ints_get (lt_len rfl (inR_lt k728))))) ?_
                    obtain ⟨b730, h731, hd732⟩ := bnd_some hd729
                    refine AO.c rfl (o_call (vs := [.int .i64 (rd (rw_ a1 x428.toNat) x671.toNat), .int .i64 (-1), .int .i64 1]) rfl Try.call110 (W_spec_l01In fu G711 (rd (rw_ a1 x428.toNat) x671.toNat) (-1) 1 b730 h731)) ?_
                    refine AO.p rfl (p_not rfl) ?_
                    refine AO.nil ?_
                    refine AX.cond rfl (fun c734 => ?_) (fun c734 => ?_)
                    · have hd735 := bif_t c734 hd732
                      refine AX.seq ?_
                      refine AX.region ?_
                      refine AO.p rfl (p_assign rfl) ?_
                      refine AO.nil ?_
                      refine AX.ret ?_
                      obtain rfl := some_inj hd735
                      have z736 : _ = r703 := hk709
                      subst z736
                      obtain rfl := some_inj hd705
                      have z737 : _ = r584 := hk590
                      subst z737
                      obtain rfl := some_inj hd586
                      exact ⟨.inr rfl, _, res1 rfl (rv_tmp rfl), rfl, (flatB_ok rfl), S710.hold⟩
                    · have hd738 := bif_f c734 hd732
                      refine AX.skip ?_
                      refine AX.region ?_
                      refine AO.p rfl (p_move rfl) ?_
                      obtain ⟨k739, hd740⟩ := chk_some hd738
                      refine AO.p rfl (p_addE rfl rfl k739) ?_
                      refine AO.p rfl (p_assign rfl) ?_
                      refine AO.nil ?_
                      obtain rfl := some_inj hd740
                      have S742 := S710.front 0 rfl
                      exact ⟨x671 + 1, hk709, (x671 + 1), rfl, S742, Sub.cons' rfl rfl (Sub.cons' rfl rfl (Sub.cons' rfl rfl (Sub.cons' rfl rfl (Sub.nil _))))⟩
                  · have hd743 := bif_f c720 hd715
                    refine AX.exit ?_
                    obtain rfl := some_inj hd743
                    have S744 := S710.front 0 rfl
                    exact ⟨hk709, S744, Sub.cons' rfl rfl (Sub.cons' rfl rfl (Sub.cons' rfl rfl (Sub.nil _)))⟩
              · rintro t' G746 ⟨rfl, S745, hsub747⟩
                refine AX.sub hsub747 ?_
                refine AX.region ?_
                refine AO.p rfl (p_move rfl) ?_
                obtain ⟨k748, hd749⟩ := chk_some hd705
                refine AO.p rfl (p_addE rfl rfl k748) ?_
                refine AO.p rfl (p_assign rfl) ?_
                refine AO.nil ?_
                obtain rfl := some_inj hd749
                have S751 := S745.front 0 rfl
                exact ⟨x428 + 1, hk590, (x428 + 1), rfl, S751, Sub.cons' rfl rfl (Sub.cons' rfl rfl (Sub.cons' rfl rfl (Sub.nil _)))⟩
          · have hd753 := bif_f c595 ho589
            refine AX.exit ?_
            obtain rfl := some_inj hd753
            have S754 := S591.keep 0
            exact ⟨hk590, S754, Sub.nil _⟩
      · rintro t' G756 ⟨rfl, S755, hsub757⟩
        refine AX.sub hsub757 ?_
        refine AX.seq ?_
        refine AX.region ?_
        refine AO.p rfl (p_assign rfl) ?_
        refine AO.nil ?_
        refine AX.ret ?_
        obtain rfl := some_inj hd586
        exact ⟨.inr rfl, _, res1 rfl (rv_tmp rfl), rfl, (flatB_ok rfl), S755.hold⟩

set_option maxHeartbeats 4000000 in
theorem W_spec_l05Are (fu : Nat) (H : AHeap) (a0_0 : Int) (p_a0_1 : Option Addr) (c_a0_1 : Nat) (a0_1 : List (List Int)) (a_a0_1 : All 14 a0_1) (v_a0_1 : Vw H p_a0_1 a0_1.length c_a0_1 (ints a0_1.flatten)) (p_a1 : Option Addr) (c_a1 : Nat) (T_a1 : Tb) (a1 : List (List Int)) (t_a1 : trows T_a1 = a1) (v_a1 : Vw H p_a1 a1.length c_a1 (tcells T_a1)) (w_a1 : TVw H T_a1) (r0 : Bool) (hd : D_spec_l05Are fu a0_0 a0_1 a1 = some r0) : ACall Try.prog 78 [.agg [.int .i64 a0_0, .slice p_a0_1 a0_1.length c_a0_1].toArray, .slice p_a1 a1.length c_a1] H (.bool r0) H := by
  refine ACall.bodyP (N := 73) [(0, .agg [.int .i64 a0_0, .slice p_a0_1 a0_1.length c_a0_1].toArray), (1, .slice p_a1 a1.length c_a1)] Try.func78 rfl rfl rfl rfl ?_
  unfold D_spec_l05Are at hd
  have S0 : St [] H H [] := St.nil H
  refine AX.seq ?_
  refine AX.region ?_
  obtain ⟨G100, i101, hii101, hHG100, S102⟩ := S0.new (AObj.row false ([.int .i64 a0_0, .slice p_a0_1 a0_1.length c_a0_1]))
  refine AO.c rfl (s_box (i := i101) (cs := [.int .i64 a0_0, .slice p_a0_1 a0_1.length c_a0_1]) rfl hii101 rfl hHG100) ?_
  refine AO.p rfl (p_assign rfl) ?_
  refine AO.nil ?_
  refine AX.seq ?_
  refine AX.seq ?_
  refine AX.region ?_
  refine AO.p rfl (p_assign rfl) ?_
  refine AO.nil ?_
  obtain ⟨r2425, hl2426, hd2427⟩ := bnd_some hd
  refine AX.cutQ (fun t' H' => .inl () = r2425 ∧ St [] H H' [] ∧ Am.Sub [] t') ?_ ?_
  · refine AX.block ?_
    refine AX.loopF (fun s' t' H' => ∃ (x1652 : Int), x1652 = s' ∧ St [] H H' [[(i101, AObj.row false ([.int .i64 a0_0, .slice p_a0_1 a0_1.length c_a0_1]))]] ∧ Am.Sub [(1, .slice p_a1 a1.length c_a1), (2, .pointer (some ⟨i101, 0, none⟩)), (5, .int .i64 x1652)] t') hl2426 ?_ ?_
    · skip
      have S2428 := S102.front 0 rfl
      exact ⟨0, rfl, S2428, Sub.cons' rfl rfl (Sub.cons' rfl rfl (Sub.cons' rfl rfl (Sub.nil _)))⟩
    · rintro n2429 _ t' G2433 ⟨x1652, rfl, S2432, hsub2434⟩ o2435 ho2430 hk2431
      refine AX.sub hsub2434 ?_
      unfold D_spec_l05Are_s0 at ho2430
      refine AX.seq ?_
      refine AX.seq ?_
      refine AX.region ?_
      refine AO.p rfl (p_move rfl) ?_
      refine AO.p rfl (p_move rfl) ?_
      refine AO.p rfl (p_len_slice rfl Try.underlying22) ?_
      refine AO.p rfl (p_lss rfl rfl) ?_
      refine AO.nil ?_
      refine AX.cond rfl (fun c2436 => ?_) (fun c2436 => ?_)
      · have hd2437 := bif_t c2436 ho2430
        refine AX.skip ?_
        refine AX.seq ?_
        refine AX.block ?_
        refine AX.seq ?_
        refine AX.region ?_
        refine AO.p rfl (p_assign rfl) ?_
        refine AO.nil ?_
        obtain ⟨r3003, hl3004, hd3005⟩ := bnd_some hd2437
        refine AX.cutQ (fun t' H' => .inl () = r3003 ∧ St [] H H' [[(i101, AObj.row false ([.int .i64 a0_0, .slice p_a0_1 a0_1.length c_a0_1]))]] ∧ Am.Sub [(1, .slice p_a1 a1.length c_a1), (2, .pointer (some ⟨i101, 0, none⟩)), (5, .int .i64 x1652)] t') ?_ ?_
        · refine AX.block ?_
          refine AX.loopF (fun s' t' H' => ∃ (x2814 : Int), x2814 = s' ∧ St [] H H' [[(i101, AObj.row false ([.int .i64 a0_0, .slice p_a0_1 a0_1.length c_a0_1]))]] ∧ Am.Sub [(1, .slice p_a1 a1.length c_a1), (2, .pointer (some ⟨i101, 0, none⟩)), (5, .int .i64 x1652), (6, .int .i64 x2814)] t') hl3004 ?_ ?_
          · skip
            have S3006 := S2432.front 0 rfl
            exact ⟨0, rfl, S3006, Sub.cons' rfl rfl (Sub.cons' rfl rfl (Sub.cons' rfl rfl (Sub.cons' rfl rfl (Sub.nil _))))⟩
          · rintro n3007 _ t' G3011 ⟨x2814, rfl, S3010, hsub3012⟩ o3013 ho3008 hk3009
            refine AX.sub hsub3012 ?_
            unfold D_spec_l05Are_s1 at ho3008
            refine AX.seq ?_
            refine AX.seq ?_
            refine AX.region ?_
            refine AO.p rfl (p_move rfl) ?_
            refine AO.p rfl (s_fieldAddr Try.underlying39 rfl Try.sizeOf2 (by decide) rfl rfl) ?_
            refine AO.c rfl (s_load Try.isAgg2 rfl (row_cell (S3010.get (k := 0) rfl) rfl)) ?_
            refine AO.p rfl (p_lss rfl rfl) ?_
            refine AO.nil ?_
            refine AX.cond rfl (fun c3014 => ?_) (fun c3014 => ?_)
            · have hd3015 := bif_t c3014 ho3008
              refine AX.skip ?_
              refine AX.seq ?_
              refine AX.block ?_
              refine AX.seq ?_
              refine AX.region ?_
              refine AO.p rfl (s_fieldAddr Try.underlying39 rfl Try.sizeOf37 (by decide) rfl rfl) ?_
              refine AO.c rfl (s_load Try.isAgg37 rfl (row_cell (S3010.get (k := 0) rfl) rfl)) ?_
              refine AO.p rfl (p_move rfl) ?_
              refine AO.p rfl (p_move rfl) ?_
              obtain ⟨k3016, hd3017⟩ := chk_some hd3015
              refine AO.p rfl (s_indexV (q := off p_a0_1 + x1652.toNat * 14) Try.underlying37 Try.sizeOf65 rfl ((S3010.view v_a0_1).rowne a_a0_1 (by decide) (lt_len rfl (inR_lt k3016))) rfl k3016 rfl) ?_
              obtain ⟨k3018, hd3019⟩ := chk_some hd3017
              refine AO.p rfl (s_indexAr (q := off p_a0_1 + x1652.toNat * 14 + x2814.toNat) Try.underlying65 Try.sizeOf2 rfl rfl k3018 (o1 _ _)) ?_
              refine AO.c rfl (s_load Try.isAgg2 rfl ((S3010.view v_a0_1).row a_a0_1 (lt_len rfl (inR_lt k3016)) _ _ (ints_get (lt_len (rw_len a_a0_1 (lt_len rfl (inR_lt k3016))) (inR_lt k3018))))) ?_
              refine AO.p rfl (p_assign rfl) ?_
              refine AO.nil ?_
              obtain ⟨r3100, hb3101, hd3102⟩ := bnd_some hd3019
              refine AX.cut (fun t' H' => ∃ (b3099 : Bool), b3099 = r3100 ∧ St [] H H' [[(i101, AObj.row false ([.int .i64 a0_0, .slice p_a0_1 a0_1.length c_a0_1]))]] ∧ Am.Sub [(1, .slice p_a1 a1.length c_a1), (2, .pointer (some ⟨i101, 0, none⟩)), (5, .int .i64 x1652), (6, .int .i64 x2814), (72, .bool b3099)] t') ?_ ?_
              · skip
                refine DR.startS [false, false, false, false, false, false, false, false, false, false, false, false, false, false, false, false, false, false, false, false, false, false, false, false, false, false, false, false, false, false, false, false, false, false, false, false, false, false, false, false, false, false, false, false, false, false] mix (by kernel_rfl) (fun hst => ?_)
                refine DR.p rfl rfl (p_move rfl) ?_
                refine DR.p rfl rfl (p_move rfl) ?_
                refine DR.p rfl rfl (p_eql rfl rfl) ?_
                refine DR.pb rfl rfl (p_move rfl) (fun c3103 => ?_) (fun c3103 => ?_)
                · have hd3104 := bif_t c3103 hb3101
                  refine DR.gp rfl rfl rfl rfl (p_move rfl) ?_
                  refine DR.gp rfl rfl rfl rfl (p_move rfl) ?_
                  obtain ⟨k3105, hd3106⟩ := chk_some hd3104
                  obtain ⟨p3107, c3108, e3109, f3110⟩ := tget t_a1 (lt_len rfl (inR_lt k3105))
                  refine DR.gp rfl rfl rfl rfl (s_indexV (q := off p_a1 + x1652.toNat) Try.underlying22 Try.sizeOf68 rfl ((S3010.view v_a1).p f3110) rfl k3105 (o1 _ _)) ?_
                  refine DR.gr rfl rfl rfl rfl (r_load rfl Try.isAgg68) (one_read ((S3010.view v_a1).get _ _ f3110) (TVw.at (S3010.tview w_a1) e3109).inn.bel) ?_
                  refine DR.gp rfl rfl rfl rfl (p_move rfl) ?_
                  obtain ⟨k3111, hd3112⟩ := chk_some hd3106
                  refine DR.gp rfl rfl rfl rfl (s_indexV (q := off p3107 + x2814.toNat) Try.underlying68 Try.sizeOf2 rfl ((TVw.at (S3010.tview w_a1) e3109).p (ints_get (lt_len rfl (inR_lt k3111)))) rfl k3111 (o1 _ _)) ?_
                  refine DR.gr rfl rfl rfl rfl (r_load rfl Try.isAgg2) (one_read ((TVw.at (S3010.tview w_a1) e3109).get _ _ (ints_get (lt_len rfl (inR_lt k3111)))) (.of_flat0 rfl)) ?_
                  refine DR.gp rfl rfl rfl rfl (p_neq rfl rfl) ?_
                  refine DR.p rfl rfl (p_pickT rfl rfl) ?_
                  refine DR.pb rfl rfl (p_move rfl) (fun c3113 => ?_) (fun c3113 => ?_)
                  · have hd3114 := bif_t c3113 hd3112
                    refine DR.gn rfl rfl rfl rfl ?_
                    refine DR.gn rfl rfl rfl rfl ?_
                    refine DR.gn rfl rfl rfl rfl ?_
                    refine DR.gn rfl rfl rfl rfl ?_
                    refine DR.gu rfl rfl rfl rfl ?_
                    refine DR.gu rfl rfl rfl rfl ?_
                    refine DR.gu rfl rfl rfl rfl ?_
                    refine DR.gu rfl rfl rfl rfl ?_
                    refine DR.gu rfl rfl rfl rfl ?_
                    refine DR.gu rfl rfl rfl rfl ?_
                    refine DR.gu rfl rfl rfl rfl ?_
                    refine DR.gu rfl rfl rfl rfl ?_
                    refine DR.gu rfl rfl rfl rfl ?_
                    refine DR.gu rfl rfl rfl rfl ?_
                    refine DR.gu rfl rfl rfl rfl ?_
                    refine DR.gu rfl rfl rfl rfl ?_
                    refine DR.gu rfl rfl rfl rfl ?_
                    refine DR.gu rfl rfl rfl rfl ?_
                    refine DR.gu rfl rfl rfl rfl ?_
                    refine DR.gu rfl rfl rfl rfl ?_
                    refine DR.gu rfl rfl rfl rfl ?_
                    refine DR.gu rfl rfl rfl rfl ?_
                    refine DR.gu rfl rfl rfl rfl ?_
                    refine DR.gu rfl rfl rfl rfl ?_
                    refine DR.gu rfl rfl rfl rfl ?_
                    refine DR.gu rfl rfl rfl rfl ?_
                    refine DR.gu rfl rfl rfl rfl ?_
                    refine DR.gu rfl rfl rfl rfl ?_
                    refine DR.gu rfl rfl rfl rfl ?_
                    refine DR.gu rfl rfl rfl rfl ?_
                    refine DR.gn rfl rfl rfl rfl ?_
                    refine DR.p rfl rfl (p_pickT rfl rfl) ?_
                    refine DR.nil 46 [] hst (by kernel_rfl) trivial ?_
                    have S3115 := S3010.front 0 rfl
                    exact ⟨true, (some_inj hd3114), S3115, Sub.cons' rfl rfl (Sub.cons' rfl rfl (Sub.cons' rfl rfl (Sub.cons' rfl rfl (Sub.cons' rfl rfl (Sub.nil _)))))⟩
                  · have hd3116 := bif_f c3113 hd3112
                    refine DR.gp rfl rfl rfl rfl (p_move rfl) ?_
                    refine DR.gp rfl rfl rfl rfl (p_move rfl) ?_
                    refine DR.gp rfl rfl rfl rfl (p_neq rfl rfl) ?_
                    refine DR.gpb rfl rfl rfl rfl (p_move rfl) (fun c3117 => ?_) (fun c3117 => ?_)
                    · have hd3118 := bif_t c3117 hd3116
                      refine DR.gp rfl rfl rfl rfl (p_move rfl) ?_
                      refine DR.gp rfl rfl rfl rfl (p_move rfl) ?_
                      obtain ⟨k3119, hd3120⟩ := chk_some hd3118
                      obtain ⟨p3121, c3122, e3123, f3124⟩ := tget t_a1 (lt_len rfl (inR_lt k3119))
                      refine DR.gp rfl rfl rfl rfl (s_indexV (q := off p_a1 + x1652.toNat) Try.underlying22 Try.sizeOf68 rfl ((S3010.view v_a1).p f3124) rfl k3119 (o1 _ _)) ?_
                      refine DR.gr rfl rfl rfl rfl (r_load rfl Try.isAgg68) (one_read ((S3010.view v_a1).get _ _ f3124) (TVw.at (S3010.tview w_a1) e3123).inn.bel) ?_
                      refine DR.gp rfl rfl rfl rfl (p_move rfl) ?_
                      obtain ⟨k3125, hd3126⟩ := chk_some hd3120
                      refine DR.gp rfl rfl rfl rfl (s_indexV (q := off p3121 + x2814.toNat) Try.underlying68 Try.sizeOf2 rfl ((TVw.at (S3010.tview w_a1) e3123).p (ints_get (lt_len rfl (inR_lt k3125)))) rfl k3125 (o1 _ _)) ?_
                      refine DR.gr rfl rfl rfl rfl (r_load rfl Try.isAgg2) (one_read ((TVw.at (S3010.tview w_a1) e3123).get _ _ (ints_get (lt_len rfl (inR_lt k3125)))) (.of_flat0 rfl)) ?_
                      refine DR.gp rfl rfl rfl rfl (p_lss rfl rfl) ?_
                      refine DR.gpb rfl rfl rfl rfl (p_move rfl) (fun c3127 => ?_) (fun c3127 => ?_)
                      · have hd3128 := bif_t c3127 hd3126
                        refine DR.gn rfl rfl rfl rfl ?_
                        refine DR.gn rfl rfl rfl rfl ?_
                        refine DR.gn rfl rfl rfl rfl ?_
                        refine DR.gn rfl rfl rfl rfl ?_
                        refine DR.gn rfl rfl rfl rfl ?_
                        refine DR.gn rfl rfl rfl rfl ?_
                        refine DR.gn rfl rfl rfl rfl ?_
                        refine DR.gn rfl rfl rfl rfl ?_
                        refine DR.gn rfl rfl rfl rfl ?_
                        refine DR.gn rfl rfl rfl rfl ?_
                        refine DR.gn rfl rfl rfl rfl ?_
                        refine DR.gn rfl rfl rfl rfl ?_
                        refine DR.gn rfl rfl rfl rfl ?_
                        refine DR.gn rfl rfl rfl rfl ?_
                        refine DR.gn rfl rfl rfl rfl ?_
                        refine DR.gn rfl rfl rfl rfl ?_
                        refine DR.gp rfl rfl rfl rfl (p_pickT rfl rfl) ?_
                        refine DR.gp rfl rfl rfl rfl (p_pickT rfl rfl) ?_
                        refine DR.p rfl rfl (p_pickF rfl rfl) ?_
                        refine DR.nil 46 [] hst (by kernel_rfl) trivial ?_
                        have S3129 := S3010.front 0 rfl
                        exact ⟨true, (some_inj hd3128), S3129, Sub.cons' rfl rfl (Sub.cons' rfl rfl (Sub.cons' rfl rfl (Sub.cons' rfl rfl (Sub.cons' rfl rfl (Sub.nil _)))))⟩
                      · have hd3130 := bif_f c3127 hd3126
                        refine DR.gp rfl rfl rfl rfl (p_move rfl) ?_
                        refine DR.gp rfl rfl rfl rfl (p_move rfl) ?_
                        obtain ⟨k3131, hd3132⟩ := chk_some hd3130
                        obtain ⟨p3133, c3134, e3135, f3136⟩ := tget t_a1 (lt_len rfl (inR_lt k3131))
                        refine DR.gp rfl rfl rfl rfl (s_indexV (q := off p_a1 + x1652.toNat) Try.underlying22 Try.sizeOf68 rfl ((S3010.view v_a1).p f3136) rfl k3131 (o1 _ _)) ?_
                        refine DR.gr rfl rfl rfl rfl (r_load rfl Try.isAgg68) (one_read ((S3010.view v_a1).get _ _ f3136) (TVw.at (S3010.tview w_a1) e3135).inn.bel) ?_
                        refine DR.gp rfl rfl rfl rfl (p_move rfl) ?_
                        obtain ⟨k3137, hd3138⟩ := chk_some hd3132
                        refine DR.gp rfl rfl rfl rfl (s_indexV (q := off p3133 + x2814.toNat) Try.underlying68 Try.sizeOf2 rfl ((TVw.at (S3010.tview w_a1) e3135).p (ints_get (lt_len rfl (inR_lt k3137)))) rfl k3137 (o1 _ _)) ?_
                        refine DR.gr rfl rfl rfl rfl (r_load rfl Try.isAgg2) (one_read ((TVw.at (S3010.tview w_a1) e3135).get _ _ (ints_get (lt_len rfl (inR_lt k3137)))) (.of_flat0 rfl)) ?_
                        refine DR.gp rfl rfl rfl rfl (p_move rfl) ?_
                        refine DR.gp rfl rfl rfl rfl (p_move rfl) ?_
                        obtain ⟨k3139, hd3140⟩ := chk_some hd3138
                        obtain ⟨p3141, c3142, e3143, f3144⟩ := tget t_a1 (lt_len rfl (inR_lt k3139))
                        refine DR.gp rfl rfl rfl rfl (s_indexV (q := off p_a1 + x1652.toNat) Try.underlying22 Try.sizeOf68 rfl ((S3010.view v_a1).p f3144) rfl k3139 (o1 _ _)) ?_
                        refine DR.gr rfl rfl rfl rfl (r_load rfl Try.isAgg68) (one_read ((S3010.view v_a1).get _ _ f3144) (TVw.at (S3010.tview w_a1) e3143).inn.bel) ?_
                        refine DR.gp rfl rfl rfl rfl (p_move rfl) ?_
                        obtain ⟨k3145, hd3146⟩ := chk_some hd3140
                        refine DR.gp rfl rfl rfl rfl (s_indexV (q := off p3141 + (rd (rw_ a0_1 x1652.toNat) x2814.toNat).toNat) Try.underlying68 Try.sizeOf2 rfl ((TVw.at (S3010.tview w_a1) e3143).p (ints_get (lt_len rfl (inR_lt k3145)))) rfl k3145 (o1 _ _)) ?_
                        refine DR.gr rfl rfl rfl rfl (r_load rfl Try.isAgg2) (one_read ((TVw.at (S3010.tview w_a1) e3143).get _ _ (ints_get (lt_len rfl (inR_lt k3145)))) (.of_flat0 rfl)) ?_
                        obtain ⟨k3147, hd3148⟩ := chk_some hd3146
                        refine DR.gp rfl rfl rfl rfl (p_addE rfl rfl k3147) ?_
                        refine DR.gp rfl rfl rfl rfl (p_neq rfl rfl) ?_
                        refine DR.gp rfl rfl rfl rfl (p_pickF rfl rfl) ?_
                        refine DR.gp rfl rfl rfl rfl (p_pickT rfl rfl) ?_
                        refine DR.p rfl rfl (p_pickF rfl rfl) ?_
                        refine DR.nil 46 [] hst (by kernel_rfl) trivial ?_
                        have S3149 := S3010.front 0 rfl
                        exact ⟨(!decide (rd (rw_ a1 x1652.toNat) x2814.toNat + (rd (rw_ a1 x1652.toNat) ((rd (rw_ a0_1 x1652.toNat) x2814.toNat).toNat)) = 1)), (some_inj hd3148), S3149, Sub.cons' rfl rfl (Sub.cons' rfl rfl (Sub.cons' rfl rfl (Sub.cons' rfl rfl (Sub.cons' rfl rfl (Sub.nil _)))))⟩
                    · have hd3150 := bif_f c3117 hd3116
                      refine DR.gn rfl rfl rfl rfl ?_
                      refine DR.gn rfl rfl rfl rfl ?_
                      refine DR.gn rfl rfl rfl rfl ?_
                      refine DR.gn rfl rfl rfl rfl ?_
                      refine DR.gn rfl rfl rfl rfl ?_
                      refine DR.gn rfl rfl rfl rfl ?_
                      refine DR.gn rfl rfl rfl rfl ?_
                      refine DR.gn rfl rfl rfl rfl ?_
                      refine DR.gn rfl rfl rfl rfl ?_
                      refine DR.gu rfl rfl rfl rfl ?_
                      refine DR.gu rfl rfl rfl rfl ?_
                      refine DR.gu rfl rfl rfl rfl ?_
                      refine DR.gu rfl rfl rfl rfl ?_
                      refine DR.gu rfl rfl rfl rfl ?_
                      refine DR.gu rfl rfl rfl rfl ?_
                      refine DR.gu rfl rfl rfl rfl ?_
                      refine DR.gu rfl rfl rfl rfl ?_
                      refine DR.gu rfl rfl rfl rfl ?_
                      refine DR.gu rfl rfl rfl rfl ?_
                      refine DR.gu rfl rfl rfl rfl ?_
                      refine DR.gu rfl rfl rfl rfl ?_
                      refine DR.gu rfl rfl rfl rfl ?_
                      refine DR.gu rfl rfl rfl rfl ?_
                      refine DR.gu rfl rfl rfl rfl ?_
                      refine DR.gu rfl rfl rfl rfl ?_
                      refine DR.gn rfl rfl rfl rfl ?_
                      refine DR.gp rfl rfl rfl rfl (p_pickF rfl rfl) ?_
                      refine DR.p rfl rfl (p_pickF rfl rfl) ?_
                      refine DR.nil 46 [] hst (by kernel_rfl) trivial ?_
                      have S3151 := S3010.front 0 rfl
                      exact ⟨false, (some_inj hd3150), S3151, Sub.cons' rfl rfl (Sub.cons' rfl rfl (Sub.cons' rfl rfl (Sub.cons' rfl rfl (Sub.cons' rfl rfl (Sub.nil _)))))⟩
                · have hd3152 := bif_f c3103 hb3101
                  refine DR.gn rfl rfl rfl rfl ?_
                  refine DR.gn rfl rfl rfl rfl ?_
                  refine DR.gn rfl rfl rfl rfl ?_
                  refine DR.gn rfl rfl rfl rfl ?_
                  refine DR.gn rfl rfl rfl rfl ?_
                  refine DR.gn rfl rfl rfl rfl ?_
                  refine DR.gn rfl rfl rfl rfl ?_
                  refine DR.gn rfl rfl rfl rfl ?_
                  refine DR.p rfl rfl (p_pickF rfl rfl) ?_
                  refine DR.p rfl rfl (p_move rfl) ?_
                  refine DR.gp rfl rfl rfl rfl (p_move rfl) ?_
                  refine DR.gp rfl rfl rfl rfl (p_move rfl) ?_
                  refine DR.gp rfl rfl rfl rfl (p_neq rfl rfl) ?_
                  refine DR.gpb rfl rfl rfl rfl (p_move rfl) (fun c3153 => ?_) (fun c3153 => ?_)
                  · have hd3154 := bif_t c3153 hd3152
                    refine DR.gp rfl rfl rfl rfl (p_move rfl) ?_
                    refine DR.gp rfl rfl rfl rfl (p_move rfl) ?_
                    obtain ⟨k3155, hd3156⟩ := chk_some hd3154
                    obtain ⟨p3157, c3158, e3159, f3160⟩ := tget t_a1 (lt_len rfl (inR_lt k3155))
                    refine DR.gp rfl rfl rfl rfl (s_indexV (q := off p_a1 + x1652.toNat) Try.underlying22 Try.sizeOf68 rfl ((S3010.view v_a1).p f3160) rfl k3155 (o1 _ _)) ?_
                    refine DR.gr rfl rfl rfl rfl (r_load rfl Try.isAgg68) (one_read ((S3010.view v_a1).get _ _ f3160) (TVw.at (S3010.tview w_a1) e3159).inn.bel) ?_
                    refine DR.gp rfl rfl rfl rfl (p_move rfl) ?_
                    obtain ⟨k3161, hd3162⟩ := chk_some hd3156
                    refine DR.gp rfl rfl rfl rfl (s_indexV (q := off p3157 + x2814.toNat) Try.underlying68 Try.sizeOf2 rfl ((TVw.at (S3010.tview w_a1) e3159).p (ints_get (lt_len rfl (inR_lt k3161)))) rfl k3161 (o1 _ _)) ?_
                    refine DR.gr rfl rfl rfl rfl (r_load rfl Try.isAgg2) (one_read ((TVw.at (S3010.tview w_a1) e3159).get _ _ (ints_get (lt_len rfl (inR_lt k3161)))) (.of_flat0 rfl)) ?_
                    refine DR.gp rfl rfl rfl rfl (p_lss rfl rfl) ?_
                    refine DR.gpb rfl rfl rfl rfl (p_move rfl) (fun c3163 => ?_) (fun c3163 => ?_)
                    · have hd3164 := bif_t c3163 hd3162
                      refine DR.gn rfl rfl rfl rfl ?_
                      refine DR.gn rfl rfl rfl rfl ?_
                      refine DR.gn rfl rfl rfl rfl ?_
                      refine DR.gn rfl rfl rfl rfl ?_
                      refine DR.gn rfl rfl rfl rfl ?_
                      refine DR.gn rfl rfl rfl rfl ?_
                      refine DR.gn rfl rfl rfl rfl ?_
                      refine DR.gn rfl rfl rfl rfl ?_
                      refine DR.gn rfl rfl rfl rfl ?_
                      refine DR.gn rfl rfl rfl rfl ?_
                      refine DR.gn rfl rfl rfl rfl ?_
                      refine DR.gn rfl rfl rfl rfl ?_
                      refine DR.gn rfl rfl rfl rfl ?_
                      refine DR.gn rfl rfl rfl rfl ?_
                      refine DR.gn rfl rfl rfl rfl ?_
                      refine DR.gn rfl rfl rfl rfl ?_
                      refine DR.gp rfl rfl rfl rfl (p_pickT rfl rfl) ?_
                      refine DR.gp rfl rfl rfl rfl (p_pickT rfl rfl) ?_
                      refine DR.p rfl rfl (p_pickF rfl rfl) ?_
                      refine DR.nil 46 [] hst (by kernel_rfl) trivial ?_
                      have S3165 := S3010.front 0 rfl
                      exact ⟨true, (some_inj hd3164), S3165, Sub.cons' rfl rfl (Sub.cons' rfl rfl (Sub.cons' rfl rfl (Sub.cons' rfl rfl (Sub.cons' rfl rfl (Sub.nil _)))))⟩
                    · have hd3166 := bif_f c3163 hd3162
                      refine DR.gp rfl rfl rfl rfl (p_move rfl) ?_
                      refine DR.gp rfl rfl rfl rfl (p_move rfl) ?_
                      obtain ⟨k3167, hd3168⟩ := chk_some hd3166
                      obtain ⟨p3169, c3170, e3171, f3172⟩ := tget t_a1 (lt_len rfl (inR_lt k3167))
                      refine DR.gp rfl rfl rfl rfl (s_indexV (q := off p_a1 + x1652.toNat) Try.underlying22 Try.sizeOf68 rfl ((S3010.view v_a1).p f3172) rfl k3167 (o1 _ _)) ?_
                      refine DR.gr rfl rfl rfl rfl (r_load rfl Try.isAgg68) (one_read ((S3010.view v_a1).get _ _ f3172) (TVw.at (S3010.tview w_a1) e3171).inn.bel) ?_
                      refine DR.gp rfl rfl rfl rfl (p_move rfl) ?_
                      obtain ⟨k3173, hd3174⟩ := chk_some hd3168
                      refine DR.gp rfl rfl rfl rfl (s_indexV (q := off p3169 + x2814.toNat) Try.underlying68 Try.sizeOf2 rfl ((TVw.at (S3010.tview w_a1) e3171).p (ints_get (lt_len rfl (inR_lt k3173)))) rfl k3173 (o1 _ _)) ?_
                      refine DR.gr rfl rfl rfl rfl (r_load rfl Try.isAgg2) (one_read ((TVw.at (S3010.tview w_a1) e3171).get _ _ (ints_get (lt_len rfl (inR_lt k3173)))) (.of_flat0 rfl)) ?_
                      refine DR.gp rfl rfl rfl rfl (p_move rfl) ?_
                      refine DR.gp rfl rfl rfl rfl (p_move rfl) ?_
                      obtain ⟨k3175, hd3176⟩ := chk_some hd3174
                      obtain ⟨p3177, c3178, e3179, f3180⟩ := tget t_a1 (lt_len rfl (inR_lt k3175))
                      refine DR.gp rfl rfl rfl rfl (s_indexV (q := off p_a1 + x1652.toNat) Try.underlying22 Try.sizeOf68 rfl ((S3010.view v_a1).p f3180) rfl k3175 (o1 _ _)) ?_
                      refine DR.gr rfl rfl rfl rfl (r_load rfl Try.isAgg68) (one_read ((S3010.view v_a1).get _ _ f3180) (TVw.at (S3010.tview w_a1) e3179).inn.bel) ?_
                      refine DR.gp rfl rfl rfl rfl (p_move rfl) ?_
                      obtain ⟨k3181, hd3182⟩ := chk_some hd3176
                      refine DR.gp rfl rfl rfl rfl (s_indexV (q := off p3177 + (rd (rw_ a0_1 x1652.toNat) x2814.toNat).toNat) Try.underlying68 Try.sizeOf2 rfl ((TVw.at (S3010.tview w_a1) e3179).p (ints_get (lt_len rfl (inR_lt k3181)))) rfl k3181 (o1 _ _)) ?_
                      refine DR.gr rfl rfl rfl rfl (r_load rfl Try.isAgg2) (one_read ((TVw.at (S3010.tview w_a1) e3179).get _ _ (ints_get (lt_len rfl (inR_lt k3181)))) (.of_flat0 rfl)) ?_
                      obtain ⟨k3183, hd3184⟩ := chk_some hd3182
                      refine DR.gp rfl rfl rfl rfl (p_addE rfl rfl k3183) ?_
                      refine DR.gp rfl rfl rfl rfl (p_neq rfl rfl) ?_
                      refine DR.gp rfl rfl rfl rfl (p_pickF rfl rfl) ?_
                      refine DR.gp rfl rfl rfl rfl (p_pickT rfl rfl) ?_
                      refine DR.p rfl rfl (p_pickF rfl rfl) ?_
                      refine DR.nil 46 [] hst (by kernel_rfl) trivial ?_
                      have S3185 := S3010.front 0 rfl
                      exact ⟨(!decide (rd (rw_ a1 x1652.toNat) x2814.toNat + (rd (rw_ a1 x1652.toNat) ((rd (rw_ a0_1 x1652.toNat) x2814.toNat).toNat)) = 1)), (some_inj hd3184), S3185, Sub.cons' rfl rfl (Sub.cons' rfl rfl (Sub.cons' rfl rfl (Sub.cons' rfl rfl (Sub.cons' rfl rfl (Sub.nil _)))))⟩
                  · have hd3186 := bif_f c3153 hd3152
                    refine DR.gn rfl rfl rfl rfl ?_
                    refine DR.gn rfl rfl rfl rfl ?_
                    refine DR.gn rfl rfl rfl rfl ?_
                    refine DR.gn rfl rfl rfl rfl ?_
                    refine DR.gn rfl rfl rfl rfl ?_
                    refine DR.gn rfl rfl rfl rfl ?_
                    refine DR.gn rfl rfl rfl rfl ?_
                    refine DR.gn rfl rfl rfl rfl ?_
                    refine DR.gn rfl rfl rfl rfl ?_
                    refine DR.gu rfl rfl rfl rfl ?_
                    refine DR.gu rfl rfl rfl rfl ?_
                    refine DR.gu rfl rfl rfl rfl ?_
                    refine DR.gu rfl rfl rfl rfl ?_
                    refine DR.gu rfl rfl rfl rfl ?_
                    refine DR.gu rfl rfl rfl rfl ?_
                    refine DR.gu rfl rfl rfl rfl ?_
                    refine DR.gu rfl rfl rfl rfl ?_
                    refine DR.gu rfl rfl rfl rfl ?_
                    refine DR.gu rfl rfl rfl rfl ?_
                    refine DR.gu rfl rfl rfl rfl ?_
                    refine DR.gu rfl rfl rfl rfl ?_
                    refine DR.gu rfl rfl rfl rfl ?_
                    refine DR.gu rfl rfl rfl rfl ?_
                    refine DR.gu rfl rfl rfl rfl ?_
                    refine DR.gu rfl rfl rfl rfl ?_
                    refine DR.gn rfl rfl rfl rfl ?_
                    refine DR.gp rfl rfl rfl rfl (p_pickF rfl rfl) ?_
                    refine DR.p rfl rfl (p_pickF rfl rfl) ?_
                    refine DR.nil 46 [] hst (by kernel_rfl) trivial ?_
                    have S3187 := S3010.front 0 rfl
                    exact ⟨false, (some_inj hd3186), S3187, Sub.cons' rfl rfl (Sub.cons' rfl rfl (Sub.cons' rfl rfl (Sub.cons' rfl rfl (Sub.cons' rfl rfl (Sub.nil _)))))⟩
              · rintro t' G3189 ⟨b3099, rfl, S3188, hsub3190⟩
                refine AX.sub hsub3190 ?_
                refine AX.cond rfl (fun c3191 => ?_) (fun c3191 => ?_)
                · have hd3192 := bif_t c3191 hd3102
                  refine AX.seq ?_
                  refine AX.region ?_
                  refine AO.p rfl (p_assign rfl) ?_
                  refine AO.nil ?_
                  refine AX.ret ?_
                  obtain rfl := some_inj hd3192
                  have z3193 : _ = r3003 := hk3009
                  subst z3193
                  obtain rfl := some_inj hd3005
                  have z3194 : _ = r2425 := hk2431
                  subst z3194
                  obtain rfl := some_inj hd2427
                  exact ⟨.inr rfl, _, res1 rfl (rv_tmp rfl), rfl, (flatB_ok rfl), S3188.hold⟩
                · have hd3195 := bif_f c3191 hd3102
                  refine AX.skip ?_
                  refine AX.region ?_
                  refine AO.p rfl (p_move rfl) ?_
                  obtain ⟨k3196, hd3197⟩ := chk_some hd3195
                  refine AO.p rfl (p_addE rfl rfl k3196) ?_
                  refine AO.p rfl (p_assign rfl) ?_
                  refine AO.nil ?_
                  obtain rfl := some_inj hd3197
                  have S3199 := S3188.front 0 rfl
                  exact ⟨x2814 + 1, hk3009, (x2814 + 1), rfl, S3199, Sub.cons' rfl rfl (Sub.cons' rfl rfl (Sub.cons' rfl rfl (Sub.cons' rfl rfl (Sub.nil _))))⟩
            · have hd3200 := bif_f c3014 ho3008
              refine AX.exit ?_
              obtain rfl := some_inj hd3200
              have S3201 := S3010.front 0 rfl
              exact ⟨hk3009, S3201, Sub.cons' rfl rfl (Sub.cons' rfl rfl (Sub.cons' rfl rfl (Sub.nil _)))⟩
        · rintro t' G3203 ⟨rfl, S3202, hsub3204⟩
          refine AX.sub hsub3204 ?_
          refine AX.region ?_
          refine AO.p rfl (p_move rfl) ?_
          obtain ⟨k3205, hd3206⟩ := chk_some hd3005
          refine AO.p rfl (p_addE rfl rfl k3205) ?_
          refine AO.p rfl (p_assign rfl) ?_
          refine AO.nil ?_
          obtain rfl := some_inj hd3206
          have S3208 := S3202.front 0 rfl
          exact ⟨x1652 + 1, hk2431, (x1652 + 1), rfl, S3208, Sub.cons' rfl rfl (Sub.cons' rfl rfl (Sub.cons' rfl rfl (Sub.nil _)))⟩
      · have hd3210 := bif_f c2436 ho2430
        refine AX.exit ?_
        obtain rfl := some_inj hd3210
        have S3211 := S2432.keep 0
        exact ⟨hk2431, S3211, Sub.nil _⟩
  · rintro t' G3213 ⟨rfl, S3212, hsub3214⟩
    refine AX.sub hsub3214 ?_
    refine AX.seq ?_
    refine AX.region ?_
    refine AO.p rfl (p_assign rfl) ?_
    refine AO.nil ?_
    refine AX.ret ?_
    obtain rfl := some_inj hd2427
    exact ⟨.inr rfl, _, res1 rfl (rv_tmp rfl), rfl, (flatB_ok rfl), S3212.hold⟩

set_option maxHeartbeats 4000000 in
theorem W_spec_AreVenues (fu : Nat) (H : AHeap) (a0_0 : Int) (p_a0_1 : Option Addr) (c_a0_1 : Nat) (a0_1 : List (List Int)) (a_a0_1 : All 14 a0_1) (v_a0_1 : Vw H p_a0_1 a0_1.length c_a0_1 (ints a0_1.flatten)) (p_a1 : Option Addr) (c_a1 : Nat) (T_a1 : Tb) (a1 : List (List Int)) (t_a1 : trows T_a1 = a1) (v_a1 : Vw H p_a1 a1.length c_a1 (tcells T_a1)) (w_a1 : TVw H T_a1) (r0 : Bool) (r1 : Int) (hd : D_spec_AreVenues fu a0_0 a0_1 a1 = some (r0, r1)) : ACall Try.prog 35 [.agg [.int .i64 a0_0, .slice p_a0_1 a0_1.length c_a0_1].toArray, .slice p_a1 a1.length c_a1] H (.tuple #[.bool r0, .int .i64 r1]) H := by
  refine ACall.bodyP (N := 16) [(0, .agg [.int .i64 a0_0, .slice p_a0_1 a0_1.length c_a0_1].toArray), (1, .slice p_a1 a1.length c_a1)] Try.func35 rfl rfl rfl rfl ?_
  unfold D_spec_AreVenues at hd
  have S0 : St [] H H [] := St.nil H
  refine AX.seq ?_
  refine AX.region ?_
  obtain ⟨G100, i101, hii101, hHG100, S102⟩ := S0.new (AObj.row false ([.int .i64 a0_0, .slice p_a0_1 a0_1.length c_a0_1]))
  refine AO.c rfl (s_box (i := i101) (cs := [.int .i64 a0_0, .slice p_a0_1 a0_1.length c_a0_1]) rfl hii101 rfl hHG100) ?_
  refine AO.p rfl (p_assign rfl) ?_
  refine AO.p rfl (p_assign rfl) ?_
  refine AO.nil ?_
  refine AX.seq ?_
  refine AX.seq ?_
  refine AX.region ?_
  refine AO.c rfl (s_loadN (vs := [.int .i64 a0_0, .slice p_a0_1 a0_1.length c_a0_1]) Try.isAgg39 Try.sizeOf39 rfl rfl (row_cells (S102.get (k := 0) rfl))) ?_
  refine AO.p rfl (p_move rfl) ?_
  obtain ⟨x104, h105, hd106⟩ := bnd_some hd
  refine AO.c rfl (o_call (vs := [.agg [.int .i64 a0_0, .slice p_a0_1 a0_1.length c_a0_1].toArray, .slice p_a1 a1.length c_a1]) rfl Try.call77 (W_spec_l05Form fu G100 a0_0 p_a0_1 c_a0_1 a0_1 a_a0_1 (S102.view v_a0_1) p_a1 c_a1 T_a1 a1 t_a1 (S102.view v_a1) (S102.tview w_a1) x104 h105)) ?_
  refine AO.p rfl (p_assign rfl) ?_
  refine AO.nil ?_
  refine AX.seq ?_
  refine AX.region ?_
  refine AO.p rfl (p_move rfl) ?_
  refine AO.p rfl (p_neq rfl rfl) ?_
  refine AO.nil ?_
  refine AX.cond rfl (fun c108 => ?_) (fun c108 => ?_)
  · have hd109 := bif_t c108 hd106
    refine AX.seq ?_
    refine AX.region ?_
    refine AO.p rfl (p_move rfl) ?_
    refine AO.p rfl (p_assign rfl) ?_
    refine AO.p rfl (p_assign rfl) ?_
    refine AO.nil ?_
    refine AX.ret ?_
    obtain ⟨rfl, rfl⟩ := Prod.mk.inj (some_inj hd109)
    exact ⟨.inr rfl, _, res2 rfl (rv_tmp rfl) (rv_tmp rfl), rfl, (flat_t2 (flatB_ok rfl) (flatB_ok rfl)), S102.hold⟩
  · have hd111 := bif_f c108 hd106
    refine AX.skip ?_
    refine AX.seq ?_
    refine AX.region ?_
    refine AO.c rfl (s_loadN (vs := [.int .i64 a0_0, .slice p_a0_1 a0_1.length c_a0_1]) Try.isAgg39 Try.sizeOf39 rfl rfl (row_cells (S102.get (k := 0) rfl))) ?_
    refine AO.p rfl (p_move rfl) ?_
    obtain ⟨b112, h113, hd114⟩ := bnd_some hd111
    refine AO.c rfl (o_call (vs := [.agg [.int .i64 a0_0, .slice p_a0_1 a0_1.length c_a0_1].toArray, .slice p_a1 a1.length c_a1]) rfl Try.call78 (W_spec_l05Are fu G100 a0_0 p_a0_1 c_a0_1 a0_1 a_a0_1 (S102.view v_a0_1) p_a1 c_a1 T_a1 a1 t_a1 (S102.view v_a1) (S102.tview w_a1) b112 h113)) ?_
    refine AO.p rfl (p_assign rfl) ?_
    refine AO.p rfl (p_assign rfl) ?_
    refine AO.nil ?_
    refine AX.ret ?_
    obtain ⟨rfl, rfl⟩ := Prod.mk.inj (some_inj hd114)
    exact ⟨.inr rfl, _, res2 rfl (rv_tmp rfl) (rv_tmp rfl), rfl, (flat_t2 (flatB_ok rfl) (flatB_ok rfl)), S102.hold⟩

set_option maxHeartbeats 4000000 in
theorem W_impl_Schedule_haveForm_1_1 (fu : Nat) (H : AHeap) (a0 : Int) (r0 : Bool) (hd : D_impl_Schedule_haveForm_1_1 fu a0 = some r0) : ACall Try.prog 128 [.int .i64 a0] H (.bool r0) H := by
  refine ACall.bodyP (N := 6) [(0, .int .i64 a0)] Try.func128 rfl rfl rfl rfl ?_
  unfold D_impl_Schedule_haveForm_1_1 at hd
  have S0 : St [] H H [] := St.nil H
  refine AX.seq ?_
  refine AX.region ?_
  refine AO.p rfl (p_assign rfl) ?_
  refine AO.nil ?_
  refine AX.seq ?_
  refine AX.region ?_
  refine AO.p rfl (p_move rfl) ?_
  obtain ⟨b100, h101, hd102⟩ := bnd_some hd
  refine AO.c rfl (o_call (vs := [.int .i64 a0, .int .i64 (-1), .int .i64 1]) rfl Try.call111 (W_impl_between fu H a0 (-1) 1 b100 h101)) ?_
  refine AO.p rfl (p_not rfl) ?_
  refine AO.p rfl (p_assign rfl) ?_
  refine AO.nil ?_
  refine AX.ret ?_
  obtain rfl := some_inj hd102
  exact ⟨.inr rfl, _, res1 rfl (rv_tmp rfl), rfl, (flatB_ok rfl), S0.hold⟩

set_option maxHeartbeats 4000000 in
theorem W_impl_Schedule_haveForm_1 (fu : Nat) (H : AHeap) (p_a0 : Option Addr) (c_a0 : Nat) (a0 : List Int) (v_a0 : Vw H p_a0 a0.length c_a0 (ints a0)) (i_b0 : Nat) (ro_b0 : Bool) (b0_0 : Int) (p_b0_1 : Option Addr) (c_b0_1 : Nat) (b0_1 : List (List Int)) (a_b0_1 : All 14 b0_1) (v_b0_1 : Vw H p_b0_1 b0_1.length c_b0_1 (ints b0_1.flatten)) (o_b0 : hget H i_b0 = .row ro_b0 ([.int .i64 b0_0, .slice p_b0_1 b0_1.length c_b0_1])) (r0 : Bool) (hd : D_impl_Schedule_haveForm_1 fu a0 b0_0 b0_1 = some r0) : ACall Try.prog 127 [.slice p_a0 a0.length c_a0, .pointer (some ⟨i_b0, 0, none⟩)] H (.bool r0) H := by
  refine ACall.bodyP (N := 13) [(0, .slice p_a0 a0.length c_a0), (1, .pointer (some ⟨i_b0, 0, none⟩))] Try.func127 rfl rfl rfl rfl ?_
  unfold D_impl_Schedule_haveForm_1 at hd
  have S0 : St [] H H [] := St.nil H
  refine AX.seq ?_
  refine AX.region ?_
  refine AO.p rfl (p_assign rfl) ?_
  refine AO.nil ?_
  obtain ⟨r112, hb113, hd114⟩ := bnd_some hd
  refine AX.cut (fun t' H' => ∃ (b111 : Bool), b111 = r112 ∧ St [] H H' [] ∧ Am.Sub [(3, .bool b111)] t') ?_ ?_
  · skip
    refine DR.startS [false, true, false, false, false, false, false, true, false, false] mix (by kernel_rfl) (fun hst => ?_)
    refine DR.p rfl rfl (p_move rfl) ?_
    obtain ⟨x115, h116, hd117⟩ := bnd_some hb113
    refine DR.w rfl rfl (o_call (vs := [.slice p_a0 a0.length c_a0]) rfl Try.call115 (W_impl_size_int64 fu H p_a0 c_a0 a0 (S0.view v_a0) x115 h116)) (Nat.le_refl _) ?_
    refine DR.p rfl rfl (s_fieldAddr Try.underlying39 rfl Try.sizeOf2 (by decide) rfl rfl) ?_
    refine DR.r rfl rfl (r_load rfl Try.isAgg2) (one_read (row_cell (S0.old o_b0 (by simp)) rfl) (.of_flat0 rfl)) ?_
    refine DR.p rfl rfl (p_neq rfl rfl) ?_
    refine DR.pb rfl rfl (p_move rfl) (fun c119 => ?_) (fun c119 => ?_)
    · have hd120 := bif_t c119 hd117
      refine DR.gn rfl rfl rfl rfl ?_
      refine DR.gn rfl rfl rfl rfl ?_
      refine DR.p rfl rfl (p_pickT rfl rfl) ?_
      refine DR.p rfl rfl (p_assign rfl) ?_
      refine DR.nil 10 [(3, 1)] hst (by kernel_rfl) ⟨(rd1 (fun _ => rfl)), trivial⟩ ?_
      exact ⟨true, (some_inj hd120), S0, Sub.cons' rfl rfl (Sub.nil _)⟩
    · have hd121 := bif_f c119 hd117
      refine DR.gp rfl rfl rfl rfl (p_move rfl) ?_
      obtain ⟨b122, h123, hd124⟩ := bnd_some hd121
      refine DR.gw rfl rfl rfl rfl (o_call (vs := [.slice p_a0 a0.length c_a0, .func (.func 128) #[] #[]]) rfl Try.call116 (W_slices_ContainsFunc_Sint64_int64 fu H p_a0 c_a0 a0 (S0.view v_a0) 128 #[] #[] (fun x0' => D_impl_Schedule_haveForm_1_1 fu x0') Try.call128 (fun G' hG x0' b' hb' => W_impl_Schedule_haveForm_1_1 fu G' x0' b' hb') b122 h123)) (Nat.le_refl _) ?_
      refine DR.p rfl rfl (p_pickF rfl rfl) ?_
      refine DR.p rfl rfl (p_assign rfl) ?_
      refine DR.nil 10 [(3, 1)] hst (by kernel_rfl) ⟨(rd1 (fun _ => rfl)), trivial⟩ ?_
      exact ⟨b122, (some_inj hd124), S0, Sub.cons' rfl rfl (Sub.nil _)⟩
  · rintro t' G127 ⟨b111, rfl, S126, hsub128⟩
    refine AX.sub hsub128 ?_
    refine AX.ret ?_
    obtain rfl := some_inj hd114
    exact ⟨.inr rfl, _, res1 rfl (rv_tmp rfl), rfl, (flatB_ok rfl), S126.hold⟩

set_option maxHeartbeats 4000000 in
theorem W_impl_Schedule_haveForm (fu : Nat) (H : AHeap) (a0_0 : Int) (p_a0_1 : Option Addr) (c_a0_1 : Nat) (a0_1 : List (List Int)) (a_a0_1 : All 14 a0_1) (v_a0_1 : Vw H p_a0_1 a0_1.length c_a0_1 (ints a0_1.flatten)) (p_a1 : Option Addr) (c_a1 : Nat) (T_a1 : Tb) (a1 : List (List Int)) (t_a1 : trows T_a1 = a1) (v_a1 : Vw H p_a1 a1.length c_a1 (tcells T_a1)) (w_a1 : TVw H T_a1) (r0 : Bool) (hd : D_impl_Schedule_haveForm fu a0_0 a0_1 a1 = some r0) : ACall Try.prog 81 [.agg [.int .i64 a0_0, .slice p_a0_1 a0_1.length c_a0_1].toArray, .slice p_a1 a1.length c_a1] H (.bool r0) H := by
  refine ACall.bodyP (N := 17) [(0, .agg [.int .i64 a0_0, .slice p_a0_1 a0_1.length c_a0_1].toArray), (1, .slice p_a1 a1.length c_a1)] Try.func81 rfl rfl rfl rfl ?_
  unfold D_impl_Schedule_haveForm at hd
  have S0 : St [] H H [] := St.nil H
  refine AX.seq ?_
  refine AX.region ?_
  obtain ⟨G100, i101, hii101, hHG100, S102⟩ := S0.new (AObj.row false ([.int .i64 a0_0, .slice p_a0_1 a0_1.length c_a0_1]))
  refine AO.c rfl (s_box (i := i101) (cs := [.int .i64 a0_0, .slice p_a0_1 a0_1.length c_a0_1]) rfl hii101 rfl hHG100) ?_
  refine AO.p rfl (p_assign rfl) ?_
  refine AO.nil ?_
  obtain ⟨r112, hb113, hd114⟩ := bnd_some hd
  refine AX.cut (fun t' H' => ∃ (b111 : Bool), b111 = r112 ∧ St [] H H' [] ∧ Am.Sub [(4, .bool b111)] t') ?_ ?_
  · skip
    refine AX.region ?_
    refine AO.p rfl (p_move rfl) ?_
    refine AO.p rfl (p_len_slice rfl Try.underlying22) ?_
    refine AO.p rfl (s_fieldAddr Try.underlying39 rfl Try.sizeOf37 (by decide) rfl rfl) ?_
    refine AO.c rfl (s_load Try.isAgg37 rfl (row_cell (S102.get (k := 0) rfl) rfl)) ?_
    refine AO.p rfl (p_len_slice rfl Try.underlying37) ?_
    refine AO.p rfl (p_eql rfl rfl) ?_
    refine AO.p rfl (p_move rfl) ?_
    refine AO.cases (d := 11) rfl (fun c115 => ?_) (fun c115 => ?_)
    · have hd116 := bif_t c115 hb113
      refine AO.gp rfl rfl rfl (p_move rfl) ?_
      refine AO.gp rfl rfl rfl (p_makeFunc (fs := []) (cs := [.pointer (some ⟨i101, 0, none⟩)]) rfl rfl) ?_
      obtain ⟨b117, h118, hd119⟩ := bnd_some hd116
      refine AO.gc rfl rfl rfl (o_call (vs := [.slice p_a1 a1.length c_a1, .func (.func 127) #[] #[.pointer (some ⟨i101, 0, none⟩)]]) rfl Try.call113 (W_slices_ContainsFunc_SSint64_Sint64 fu G100 p_a1 c_a1 T_a1 a1 t_a1 (S102.view v_a1) (S102.tview w_a1) 127 #[] #[.pointer (some ⟨i101, 0, none⟩)] (fun x0' => D_impl_Schedule_haveForm_1 fu x0' a0_0 a0_1) Try.call127 (fun G' hG px0' cx0' x0' vx0' b' hb' => W_impl_Schedule_haveForm_1 fu G' px0' cx0' x0' vx0' i101 false a0_0 p_a0_1 c_a0_1 a0_1 a_a0_1 (hG.view (S102.view v_a0_1)) (hG.get (S102.get (k := 0) rfl)) b' hb') b117 h118)) ?_
      refine AO.gp rfl rfl rfl (p_not rfl) ?_
      refine AO.p rfl (p_pickT rfl rfl) ?_
      refine AO.p rfl (p_assign rfl) ?_
      refine AO.nil ?_
      have S121 := S102.keep 0
      exact ⟨(!b117), (some_inj hd119), S121, Sub.cons' rfl rfl (Sub.nil _)⟩
    · have hd122 := bif_f c115 hb113
      refine AO.gn rfl rfl rfl ?_
      refine AO.gn rfl rfl rfl ?_
      refine AO.gn rfl rfl rfl ?_
      refine AO.gn rfl rfl rfl ?_
      refine AO.p rfl (p_pickF rfl rfl) ?_
      refine AO.p rfl (p_assign rfl) ?_
      refine AO.nil ?_
      have S123 := S102.keep 0
      exact ⟨false, (some_inj hd122), S123, Sub.cons' rfl rfl (Sub.nil _)⟩
  · rintro t' G125 ⟨b111, rfl, S124, hsub126⟩
    refine AX.sub hsub126 ?_
    refine AX.ret ?_
    obtain rfl := some_inj hd114
    exact ⟨.inr rfl, _, res1 rfl (rv_tmp rfl), rfl, (flatB_ok rfl), S124.hold⟩

set_option maxHeartbeats 4000000 in
theorem W_impl_AreVenues_1 (fu : Nat) (H : AHeap) (i_b0 : Nat) (ro_b0 : Bool) (b0_0 : Int) (p_b0_1 : Option Addr) (c_b0_1 : Nat) (b0_1 : List (List Int)) (a_b0_1 : All 14 b0_1) (v_b0_1 : Vw H p_b0_1 b0_1.length c_b0_1 (ints b0_1.flatten)) (o_b0 : hget H i_b0 = .row ro_b0 ([.int .i64 b0_0, .slice p_b0_1 b0_1.length c_b0_1])) (i_b1 : Nat) (ro_b1 : Bool) (p_b1_0 : Option Addr) (c_b1_0 : Nat) (T_b1_0 : Tb) (b1_0 : List (List Int)) (t_b1_0 : trows T_b1_0 = b1_0) (v_b1_0 : Vw H p_b1_0 b1_0.length c_b1_0 (tcells T_b1_0)) (w_b1_0 : TVw H T_b1_0) (o_b1 : hget H i_b1 = .row ro_b1 ([.slice p_b1_0 b1_0.length c_b1_0])) (r0 : Bool) (hd : D_impl_AreVenues_1 fu b0_0 b0_1 b1_0 = some r0) : ACall Try.prog 80 [.pointer (some ⟨i_b0, 0, none⟩), .pointer (some ⟨i_b1, 0, none⟩)] H (.bool r0) H := by
  refine ACall.bodyP (N := 6) [(0, .pointer (some ⟨i_b0, 0, none⟩)), (1, .pointer (some ⟨i_b1, 0, none⟩))] Try.func80 rfl rfl rfl rfl ?_
  unfold D_impl_AreVenues_1 at hd
  have S0 : St [] H H [] := St.nil H
  refine AX.seq ?_
  refine AX.region ?_
  refine AO.p rfl (p_assign rfl) ?_
  refine AO.nil ?_
  refine AX.seq ?_
  refine AX.region ?_
  refine AO.c rfl (s_loadN (vs := [.int .i64 b0_0, .slice p_b0_1 b0_1.length c_b0_1]) Try.isAgg39 Try.sizeOf39 rfl rfl (row_cells (S0.old o_b0 (by simp)))) ?_
  refine AO.c rfl (s_load Try.isAgg22 rfl (row_cell (S0.old o_b1 (by simp)) rfl)) ?_
  obtain ⟨b100, h101, hd102⟩ := bnd_some hd
  refine AO.c rfl (o_call (vs := [.agg [.int .i64 b0_0, .slice p_b0_1 b0_1.length c_b0_1].toArray, .slice p_b1_0 b1_0.length c_b1_0]) rfl Try.call81 (W_impl_Schedule_haveForm fu H b0_0 p_b0_1 c_b0_1 b0_1 a_b0_1 (S0.view v_b0_1) p_b1_0 c_b1_0 T_b1_0 b1_0 t_b1_0 (S0.view v_b1_0) (S0.tview w_b1_0) b100 h101)) ?_
  refine AO.p rfl (p_assign rfl) ?_
  refine AO.nil ?_
  refine AX.ret ?_
  obtain rfl := some_inj hd102
  exact ⟨.inr rfl, _, res1 rfl (rv_tmp rfl), rfl, (flatB_ok rfl), S0.hold⟩

set_option maxHeartbeats 4000000 in
theorem W_impl_Schedule_areVenues (fu : Nat) (H : AHeap) (a0_0 : Int) (p_a0_1 : Option Addr) (c_a0_1 : Nat) (a0_1 : List (List Int)) (a_a0_1 : All 14 a0_1) (v_a0_1 : Vw H p_a0_1 a0_1.length c_a0_1 (ints a0_1.flatten)) (p_a1 : Option Addr) (c_a1 : Nat) (T_a1 : Tb) (a1 : List (List Int)) (t_a1 : trows T_a1 = a1) (v_a1 : Vw H p_a1 a1.length c_a1 (tcells T_a1)) (w_a1 : TVw H T_a1) (r0 : Bool) (hd : D_impl_Schedule_areVenues fu a0_0 a0_1 a1 = some r0) : ACall Try.prog 82 [.agg [.int .i64 a0_0, .slice p_a0_1 a0_1.length c_a0_1].toArray, .slice p_a1 a1.length c_a1] H (.bool r0) H := by
  refine ACall.bodyP (N := 62) [(0, .agg [.int .i64 a0_0, .slice p_a0_1 a0_1.length c_a0_1].toArray), (1, .slice p_a1 a1.length c_a1)] Try.func82 rfl rfl rfl rfl ?_
  unfold D_impl_Schedule_areVenues at hd
  have S0 : St [] H H [] := St.nil H
  refine AX.seq ?_
  refine AX.region ?_
  obtain ⟨G100, i101, hii101, hHG100, S102⟩ := S0.new (AObj.row false ([.int .i64 a0_0, .slice p_a0_1 a0_1.length c_a0_1]))
  refine AO.c rfl (s_box (i := i101) (cs := [.int .i64 a0_0, .slice p_a0_1 a0_1.length c_a0_1]) rfl hii101 rfl hHG100) ?_
  refine AO.p rfl (p_assign rfl) ?_
  refine AO.nil ?_
  refine AX.seq ?_
  refine AX.seq ?_
  refine AX.region ?_
  refine AO.p rfl (s_fieldAddr Try.underlying39 rfl Try.sizeOf37 (by decide) rfl rfl) ?_
  refine AO.c rfl (s_load Try.isAgg37 rfl (row_cell (S102.get (k := 0) rfl) rfl)) ?_
  refine AO.p rfl (p_len_slice rfl Try.underlying37) ?_
  refine AO.p rfl (p_move rfl) ?_
  refine AO.nil ?_
  obtain ⟨r1027, hl1028, hd1029⟩ := bnd_some hd
  refine AX.cutQ (fun t' H' => .inl () = r1027 ∧ St [] H H' [] ∧ Am.Sub [] t') ?_ ?_
  · refine AX.block ?_
    refine AX.loopF (fun s' t' H' => ∃ (x720 : Int), x720 = s' ∧ St [] H H' [[(i101, AObj.row false ([.int .i64 a0_0, .slice p_a0_1 a0_1.length c_a0_1]))]] ∧ Am.Sub [(1, .slice p_a1 a1.length c_a1), (2, .pointer (some ⟨i101, 0, none⟩)), (11, .slice p_a0_1 a0_1.length c_a0_1), (12, .int .i64 ((a0_1.length : Nat) : Int)), (13, .int .i64 x720)] t') hl1028 ?_ ?_
    · skip
      have S1030 := S102.front 0 rfl
      exact ⟨0, rfl, S1030, Sub.cons' rfl rfl (Sub.cons' rfl rfl (Sub.cons' rfl rfl (Sub.cons' rfl rfl (Sub.cons' rfl rfl (Sub.nil _)))))⟩
    · rintro n1031 _ t' G1035 ⟨x720, rfl, S1034, hsub1036⟩ o1037 ho1032 hk1033
      refine AX.sub hsub1036 ?_
      unfold D_impl_Schedule_areVenues_s0 at ho1032
      refine AX.seq ?_
      refine AX.region ?_
      refine AO.p rfl (p_lss rfl rfl) ?_
      refine AO.nil ?_
      refine AX.seq ?_
      refine AX.cond rfl (fun c1038 => ?_) (fun c1038 => ?_)
      · have hd1039 := bif_t c1038 ho1032
        refine AX.skip ?_
        refine AX.seq ?_
        refine AX.block ?_
        refine AX.seq ?_
        refine AX.region ?_
        refine AO.p rfl (p_move rfl) ?_
        obtain ⟨k1040, hd1041⟩ := chk_some hd1039
        refine AO.p rfl (s_indexV (q := off p_a0_1 + x720.toNat * 14) Try.underlying37 Try.sizeOf65 rfl ((S1034.view v_a0_1).rowne a_a0_1 (by decide) (lt_len rfl (inR_lt k1040))) rfl k1040 rfl) ?_
        refine AO.c rfl (s_loadN (vs := ints (rw_ a0_1 x720.toNat)) Try.isAgg65 Try.sizeOf65 rfl (ints_len (rw_len a_a0_1 (lt_len rfl (inR_lt k1040)))) ((S1034.view v_a0_1).row a_a0_1 (lt_len rfl (inR_lt k1040)))) ?_
        obtain ⟨G1042, i1043, hii1043, hHG1042, S1044⟩ := S1034.new (AObj.row false (ints (List.replicate 14 0)))
        refine AO.c rfl (s_alloc (i := i1043) (cs := ints (List.replicate 14 0)) Try.zeroValue65 rfl rfl hii1043 hHG1042) ?_
        refine AO.p rfl (p_assign rfl) ?_
        obtain ⟨G1046, hHG1046, S1047⟩ := S1044.set (k := 0) (i := i1043) rfl (AObj.row false (ints (rw_ a0_1 x720.toNat)))
        refine AO.s (s_storeAll (vs := ints (rw_ a0_1 x720.toNat)) Try.sizeOf65 rfl rfl ints_one (S1044.get (k := 0) rfl) (ints_len (rw_len a_a0_1 (lt_len rfl (inR_lt k1040)))) (ints_len len_rep) hHG1046) ?_
        refine AO.nil ?_
        refine AX.seq ?_
        refine AX.region ?_
        refine AO.p rfl (s_fieldAddr Try.underlying39 rfl Try.sizeOf2 (by decide) rfl rfl) ?_
        refine AO.c rfl (s_load Try.isAgg2 rfl (row_cell (S1047.get (k := 1) rfl) rfl)) ?_
        refine AO.p rfl (p_move rfl) ?_
        refine AO.nil ?_
        obtain ⟨r1254, hl1255, hd1256⟩ := bnd_some hd1041
        refine AX.cutQ (fun t' H' => .inl () = r1254 ∧ St [] H H' [[(i101, AObj.row false ([.int .i64 a0_0, .slice p_a0_1 a0_1.length c_a0_1]))]] ∧ Am.Sub [(1, .slice p_a1 a1.length c_a1), (2, .pointer (some ⟨i101, 0, none⟩)), (11, .slice p_a0_1 a0_1.length c_a0_1), (12, .int .i64 ((a0_1.length : Nat) : Int)), (13, .int .i64 x720)] t') ?_ ?_
        · refine AX.block ?_
          refine AX.loopF (fun s' t' H' => ∃ (x1183 : Int), x1183 = s' ∧ St [] H H' [[(i101, AObj.row false ([.int .i64 a0_0, .slice p_a0_1 a0_1.length c_a0_1]))], [(i1043, AObj.row false (ints (rw_ a0_1 x720.toNat)))]] ∧ Am.Sub [(1, .slice p_a1 a1.length c_a1), (2, .pointer (some ⟨i101, 0, none⟩)), (5, .int .i64 x720), (6, .pointer (some ⟨i1043, 0, none⟩)), (11, .slice p_a0_1 a0_1.length c_a0_1), (12, .int .i64 ((a0_1.length : Nat) : Int)), (13, .int .i64 x720), (19, .int .i64 a0_0), (20, .int .i64 x1183)] t') hl1255 ?_ ?_
          · skip
            have S1257 := S1047.front 0 rfl
            have S1258 := S1257.front 1 rfl
            exact ⟨0, rfl, S1258, Sub.cons' rfl rfl (Sub.cons' rfl rfl (Sub.cons' rfl rfl (Sub.cons' rfl rfl (Sub.cons' rfl rfl (Sub.cons' rfl rfl (Sub.cons' rfl rfl (Sub.cons' rfl rfl (Sub.cons' rfl rfl (Sub.nil _)))))))))⟩
          · rintro n1259 _ t' G1263 ⟨x1183, rfl, S1262, hsub1264⟩ o1265 ho1260 hk1261
            refine AX.sub hsub1264 ?_
            unfold D_impl_Schedule_areVenues_s1 at ho1260
            refine AX.seq ?_
            refine AX.region ?_
            refine AO.p rfl (p_lss rfl rfl) ?_
            refine AO.nil ?_
            refine AX.seq ?_
            refine AX.cond rfl (fun c1266 => ?_) (fun c1266 => ?_)
            · have hd1267 := bif_t c1266 ho1260
              refine AX.skip ?_
              refine AX.seq ?_
              refine AX.block ?_
              refine AX.seq ?_
              refine AX.region ?_
              refine AO.p rfl (p_move rfl) ?_
              refine AO.p rfl (p_assign rfl) ?_
              refine AO.nil ?_
              refine AX.seq ?_
              refine DR.startS [false, false, false, false, false, false, false, false, false, false, false, false, false, false, false, false, false, false] mix (by kernel_rfl) (fun hst => ?_)
              refine DR.p rfl rfl (p_move rfl) ?_
              refine DR.p rfl rfl (p_move rfl) ?_
              obtain ⟨k1268, hd1269⟩ := chk_some hd1267
              obtain ⟨p1270, c1271, e1272, f1273⟩ := tget t_a1 (lt_len rfl (inR_lt k1268))
              refine DR.p rfl rfl (s_indexV (q := off p_a1 + x720.toNat) Try.underlying22 Try.sizeOf68 rfl ((S1262.view v_a1).p f1273) rfl k1268 (o1 _ _)) ?_
              refine DR.r rfl rfl (r_load rfl Try.isAgg68) (one_read ((S1262.view v_a1).get _ _ f1273) (TVw.at (S1262.tview w_a1) e1272).inn.bel) ?_
              refine DR.p rfl rfl (p_move rfl) ?_
              obtain ⟨k1274, hd1275⟩ := chk_some hd1269
              refine DR.p rfl rfl (s_indexV (q := off p1270 + x1183.toNat) Try.underlying68 Try.sizeOf2 rfl ((TVw.at (S1262.tview w_a1) e1272).p (ints_get (lt_len rfl (inR_lt k1274)))) rfl k1274 (o1 _ _)) ?_
              refine DR.r rfl rfl (r_load rfl Try.isAgg2) (one_read ((TVw.at (S1262.tview w_a1) e1272).get _ _ (ints_get (lt_len rfl (inR_lt k1274)))) (.of_flat0 rfl)) ?_
              refine DR.p rfl rfl (p_move rfl) ?_
              refine DR.p rfl rfl (p_move rfl) ?_
              obtain ⟨k1276, hd1277⟩ := chk_some hd1275
              obtain ⟨p1278, c1279, e1280, f1281⟩ := tget t_a1 (lt_len rfl (inR_lt k1276))
              refine DR.p rfl rfl (s_indexV (q := off p_a1 + x720.toNat) Try.underlying22 Try.sizeOf68 rfl ((S1262.view v_a1).p f1281) rfl k1276 (o1 _ _)) ?_
              refine DR.r rfl rfl (r_load rfl Try.isAgg68) (one_read ((S1262.view v_a1).get _ _ f1281) (TVw.at (S1262.tview w_a1) e1280).inn.bel) ?_
              refine DR.p rfl rfl (p_move rfl) ?_
              obtain ⟨k1282, hd1283⟩ := chk_some hd1277
              refine DR.p rfl rfl (s_indexAr (q := x1183.toNat) Try.underlying65 Try.sizeOf2 rfl rfl k1282 (z1 _)) ?_
              refine DR.r rfl rfl (r_load rfl Try.isAgg2) (one_read (row_cell (S1262.get (k := 1) rfl) (ints_get (lt_len (rw_len a_a0_1 (lt_len rfl (inR_lt k1040))) (inR_lt k1282)))) (.of_flat0 rfl)) ?_
              obtain ⟨k1284, hd1285⟩ := chk_some hd1283
              refine DR.p rfl rfl (s_indexV (q := off p1278 + (rd (rw_ a0_1 x720.toNat) x1183.toNat).toNat) Try.underlying68 Try.sizeOf2 rfl ((TVw.at (S1262.tview w_a1) e1280).p (ints_get (lt_len rfl (inR_lt k1284)))) rfl k1284 (o1 _ _)) ?_
              refine DR.r rfl rfl (r_load rfl Try.isAgg2) (one_read ((TVw.at (S1262.tview w_a1) e1280).get _ _ (ints_get (lt_len rfl (inR_lt k1284)))) (.of_flat0 rfl)) ?_
              refine DR.p rfl rfl (p_assign rfl) ?_
              refine DR.p rfl rfl (p_assign rfl) ?_
              refine DR.nil 18 [] hst (by kernel_rfl) trivial ?_
              obtain ⟨r1301, hb1302, hd1303⟩ := bnd_some hd1285
              refine AX.cut (fun t' H' => ∃ (b1300 : Bool), b1300 = r1301 ∧ St [] H H' [[(i101, AObj.row false ([.int .i64 a0_0, .slice p_a0_1 a0_1.length c_a0_1]))], [(i1043, AObj.row false (ints (rw_ a0_1 x720.toNat)))]] ∧ Am.Sub [(1, .slice p_a1 a1.length c_a1), (2, .pointer (some ⟨i101, 0, none⟩)), (5, .int .i64 x720), (6, .pointer (some ⟨i1043, 0, none⟩)), (11, .slice p_a0_1 a0_1.length c_a0_1), (12, .int .i64 ((a0_1.length : Nat) : Int)), (13, .int .i64 x720), (19, .int .i64 a0_0), (20, .int .i64 x1183), (59, .bool b1300)] t') ?_ ?_
              · skip
                refine AX.region ?_
                refine AO.p rfl (p_move rfl) ?_
                obtain ⟨k1304, hd1305⟩ := chk_some hb1302
                refine AO.p rfl (s_indexAr (q := x1183.toNat) Try.underlying65 Try.sizeOf2 rfl rfl k1304 (z1 _)) ?_
                refine AO.c rfl (s_load Try.isAgg2 rfl (row_cell (S1262.get (k := 1) rfl) (ints_get (lt_len (rw_len a_a0_1 (lt_len rfl (inR_lt k1040))) (inR_lt k1304))))) ?_
                refine AO.p rfl (p_move rfl) ?_
                refine AO.p rfl (p_eql rfl rfl) ?_
                refine AO.p rfl (p_move rfl) ?_
                refine AO.p rfl (p_lss rfl rfl) ?_
                refine AO.p rfl (p_bneq Try.underlying4 rfl rfl) ?_
                refine AO.p rfl (p_move rfl) ?_
                refine AO.cases (d := 47) rfl (fun c1306 => ?_) (fun c1306 => ?_)
                · have hd1307 := bif_t c1306 hd1305
                  refine AO.gn rfl rfl rfl ?_
                  refine AO.gn rfl rfl rfl ?_
                  refine AO.gn rfl rfl rfl ?_
                  refine AO.gn rfl rfl rfl ?_
                  refine AO.gn rfl rfl rfl ?_
                  refine AO.gn rfl rfl rfl ?_
                  refine AO.gu rfl rfl rfl ?_
                  refine AO.gu rfl rfl rfl ?_
                  refine AO.gu rfl rfl rfl ?_
                  refine AO.gu rfl rfl rfl ?_
                  refine AO.gn rfl rfl rfl ?_
                  refine AO.p rfl (p_pickT rfl rfl) ?_
                  refine AO.nil ?_
                  have S1308 := S1262.front 1 rfl
                  have S1309 := S1308.front 1 rfl
                  exact ⟨true, (some_inj hd1307), S1309, Sub.cons' rfl rfl (Sub.cons' rfl rfl (Sub.cons' rfl rfl (Sub.cons' rfl rfl (Sub.cons' rfl rfl (Sub.cons' rfl rfl (Sub.cons' rfl rfl (Sub.cons' rfl rfl (Sub.cons' rfl rfl (Sub.cons' rfl rfl (Sub.nil _))))))))))⟩
                · have hd1310 := bif_f c1306 hd1305
                  refine AO.gp rfl rfl rfl (p_move rfl) ?_
                  obtain ⟨k1311, hd1312⟩ := chk_some hd1310
                  refine AO.gp rfl rfl rfl (s_indexAr (q := x1183.toNat) Try.underlying65 Try.sizeOf2 rfl rfl k1311 (z1 _)) ?_
                  refine AO.gc rfl rfl rfl (s_load Try.isAgg2 rfl (row_cell (S1262.get (k := 1) rfl) (ints_get (lt_len (rw_len a_a0_1 (lt_len rfl (inR_lt k1040))) (inR_lt k1311))))) ?_
                  refine AO.gp rfl rfl rfl (p_move rfl) ?_
                  refine AO.gp rfl rfl rfl (p_neq rfl rfl) ?_
                  refine AO.gp rfl rfl rfl (p_move rfl) ?_
                  refine AO.cases (d := 53) rfl (fun c1313 => ?_) (fun c1313 => ?_)
                  · have hd1314 := bif_t c1313 hd1312
                    refine AO.gp rfl rfl rfl (p_move rfl) ?_
                    refine AO.gp rfl rfl rfl (p_move rfl) ?_
                    obtain ⟨k1315, hd1316⟩ := chk_some hd1314
                    refine AO.gp rfl rfl rfl (p_addE rfl rfl k1315) ?_
                    refine AO.gp rfl rfl rfl (p_neq rfl rfl) ?_
                    refine AO.gp rfl rfl rfl (p_pickT rfl rfl) ?_
                    refine AO.p rfl (p_pickF rfl rfl) ?_
                    refine AO.nil ?_
                    have S1317 := S1262.front 1 rfl
                    have S1318 := S1317.front 1 rfl
                    exact ⟨(!decide (rd (rw_ a1 x720.toNat) x1183.toNat + (rd (rw_ a1 x720.toNat) ((rd (rw_ a0_1 x720.toNat) x1183.toNat).toNat)) = 1)), (some_inj hd1316), S1318, Sub.cons' rfl rfl (Sub.cons' rfl rfl (Sub.cons' rfl rfl (Sub.cons' rfl rfl (Sub.cons' rfl rfl (Sub.cons' rfl rfl (Sub.cons' rfl rfl (Sub.cons' rfl rfl (Sub.cons' rfl rfl (Sub.cons' rfl rfl (Sub.nil _))))))))))⟩
                  · have hd1319 := bif_f c1313 hd1312
                    refine AO.gn rfl rfl rfl ?_
                    refine AO.gn rfl rfl rfl ?_
                    refine AO.gn rfl rfl rfl ?_
                    refine AO.gn rfl rfl rfl ?_
                    refine AO.gp rfl rfl rfl (p_pickF rfl rfl) ?_
                    refine AO.p rfl (p_pickF rfl rfl) ?_
                    refine AO.nil ?_
                    have S1320 := S1262.front 1 rfl
                    have S1321 := S1320.front 1 rfl
                    exact ⟨false, (some_inj hd1319), S1321, Sub.cons' rfl rfl (Sub.cons' rfl rfl (Sub.cons' rfl rfl (Sub.cons' rfl rfl (Sub.cons' rfl rfl (Sub.cons' rfl rfl (Sub.cons' rfl rfl (Sub.cons' rfl rfl (Sub.cons' rfl rfl (Sub.cons' rfl rfl (Sub.nil _))))))))))⟩
              · rintro t' G1323 ⟨b1300, rfl, S1322, hsub1324⟩
                refine AX.sub hsub1324 ?_
                refine AX.cond rfl (fun c1325 => ?_) (fun c1325 => ?_)
                · have hd1326 := bif_t c1325 hd1303
                  refine AX.seq ?_
                  refine AX.region ?_
                  refine AO.p rfl (p_assign rfl) ?_
                  refine AO.nil ?_
                  refine AX.ret ?_
                  obtain rfl := some_inj hd1326
                  have z1327 : _ = r1254 := hk1261
                  subst z1327
                  obtain rfl := some_inj hd1256
                  have z1328 : _ = r1027 := hk1033
                  subst z1328
                  obtain rfl := some_inj hd1029
                  exact ⟨.inr rfl, _, res1 rfl (rv_tmp rfl), rfl, (flatB_ok rfl), S1322.hold⟩
                · have hd1329 := bif_f c1325 hd1303
                  refine AX.skip ?_
                  refine AX.region ?_
                  obtain ⟨k1330, hd1331⟩ := chk_some hd1329
                  refine AO.p rfl (p_addE rfl rfl k1330) ?_
                  refine AO.p rfl (p_move rfl) ?_
                  refine AO.nil ?_
                  obtain rfl := some_inj hd1331
                  have S1333 := S1322.front 1 rfl
                  have S1334 := S1333.front 1 rfl
                  exact ⟨x1183 + 1, hk1261, (x1183 + 1), rfl, S1334, Sub.cons' rfl rfl (Sub.cons' rfl rfl (Sub.cons' rfl rfl (Sub.cons' rfl rfl (Sub.cons' rfl rfl (Sub.cons' rfl rfl (Sub.cons' rfl rfl (Sub.cons' rfl rfl (Sub.cons' rfl rfl (Sub.nil _)))))))))⟩
            · have hd1335 := bif_f c1266 ho1260
              refine AX.exit ?_
              obtain rfl := some_inj hd1335
              have S1336 := S1262.front 0 rfl
              have S1337 := S1336.keep 1
              exact ⟨hk1261, S1337, Sub.cons' rfl rfl (Sub.cons' rfl rfl (Sub.cons' rfl rfl (Sub.cons' rfl rfl (Sub.cons' rfl rfl (Sub.nil _)))))⟩
        · rintro t' G1339 ⟨rfl, S1338, hsub1340⟩
          refine AX.sub hsub1340 ?_
          refine AX.region ?_
          obtain ⟨k1341, hd1342⟩ := chk_some hd1256
          refine AO.p rfl (p_addE rfl rfl k1341) ?_
          refine AO.p rfl (p_move rfl) ?_
          refine AO.nil ?_
          obtain rfl := some_inj hd1342
          have S1344 := S1338.front 0 rfl
          exact ⟨x720 + 1, hk1033, (x720 + 1), rfl, S1344, Sub.cons' rfl rfl (Sub.cons' rfl rfl (Sub.cons' rfl rfl (Sub.cons' rfl rfl (Sub.cons' rfl rfl (Sub.nil _)))))⟩
      · have hd1346 := bif_f c1038 ho1032
        refine AX.exit ?_
        obtain rfl := some_inj hd1346
        have S1347 := S1034.keep 0
        exact ⟨hk1033, S1347, Sub.nil _⟩
  · rintro t' G1349 ⟨rfl, S1348, hsub1350⟩
    refine AX.sub hsub1350 ?_
    refine AX.seq ?_
    refine AX.region ?_
    refine AO.p rfl (p_assign rfl) ?_
    refine AO.nil ?_
    refine AX.ret ?_
    obtain rfl := some_inj hd1029
    exact ⟨.inr rfl, _, res1 rfl (rv_tmp rfl), rfl, (flatB_ok rfl), S1348.hold⟩

set_option maxHeartbeats 4000000 in
theorem W_impl_AreVenues (fu : Nat) (H : AHeap) (a0_0 : Int) (p_a0_1 : Option Addr) (c_a0_1 : Nat) (a0_1 : List (List Int)) (a_a0_1 : All 14 a0_1) (v_a0_1 : Vw H p_a0_1 a0_1.length c_a0_1 (ints a0_1.flatten)) (p_a1 : Option Addr) (c_a1 : Nat) (T_a1 : Tb) (a1 : List (List Int)) (t_a1 : trows T_a1 = a1) (v_a1 : Vw H p_a1 a1.length c_a1 (tcells T_a1)) (w_a1 : TVw H T_a1) (r0 : Bool) (r1 : Int) (hd : D_impl_AreVenues fu a0_0 a0_1 a1 = some (r0, r1)) : ACall Try.prog 37 [.agg [.int .i64 a0_0, .slice p_a0_1 a0_1.length c_a0_1].toArray, .slice p_a1 a1.length c_a1] H (.tuple #[.bool r0, .int .i64 r1]) H := by
  refine ACall.bodyP (N := 16) [(0, .agg [.int .i64 a0_0, .slice p_a0_1 a0_1.length c_a0_1].toArray), (1, .slice p_a1 a1.length c_a1)] Try.func37 rfl rfl rfl rfl ?_
  unfold D_impl_AreVenues at hd
  have S0 : St [] H H [] := St.nil H
  refine AX.seq ?_
  refine AX.region ?_
  obtain ⟨G100, i101, hii101, hHG100, S102⟩ := S0.new (AObj.row false ([.int .i64 a0_0, .slice p_a0_1 a0_1.length c_a0_1]))
  refine AO.c rfl (s_box (i := i101) (cs := [.int .i64 a0_0, .slice p_a0_1 a0_1.length c_a0_1]) rfl hii101 rfl hHG100) ?_
  obtain ⟨G104, i105, hii105, hHG104, S106⟩ := S102.new (AObj.row false ([.slice p_a1 a1.length c_a1]))
  refine AO.c rfl (s_box (i := i105) (cs := [.slice p_a1 a1.length c_a1]) rfl hii105 rfl hHG104) ?_
  refine AO.p rfl (p_assign rfl) ?_
  refine AO.p rfl (p_assign rfl) ?_
  refine AO.nil ?_
  refine AX.seq ?_
  refine AX.seq ?_
  refine AX.region ?_
  refine AO.c rfl (s_loadN (vs := [.int .i64 a0_0, .slice p_a0_1 a0_1.length c_a0_1]) Try.isAgg39 Try.sizeOf39 rfl rfl (row_cells (S106.get (k := 1) rfl))) ?_
  refine AO.p rfl (p_makeFunc (fs := []) (cs := [.pointer (some ⟨i101, 0, none⟩), .pointer (some ⟨i105, 0, none⟩)]) rfl rfl) ?_
  obtain ⟨x108, h109, hd110⟩ := bnd_some hd
  refine AO.c rfl (o_call (vs := [.agg [.int .i64 a0_0, .slice p_a0_1 a0_1.length c_a0_1].toArray, .func (.func 80) #[] #[.pointer (some ⟨i101, 0, none⟩), .pointer (some ⟨i105, 0, none⟩)]]) rfl Try.call73 (W_impl_scheduleCode fu G104 a0_0 p_a0_1 c_a0_1 a0_1 a_a0_1 (S106.view v_a0_1) 80 #[] #[.pointer (some ⟨i101, 0, none⟩), .pointer (some ⟨i105, 0, none⟩)] (fun _ => D_impl_AreVenues_1 fu a0_0 a0_1 a1) Try.call80 (fun G' hG  b' hb' => W_impl_AreVenues_1 fu G' i101 false a0_0 p_a0_1 c_a0_1 a0_1 a_a0_1 (hG.view (S106.view v_a0_1)) (hG.get (S106.get (k := 1) rfl)) i105 false p_a1 c_a1 T_a1 a1 t_a1 (hG.view (S106.view v_a1)) (hG.tview (S106.tview w_a1)) (hG.get (S106.get (k := 0) rfl)) b' hb') x108 h109)) ?_
  refine AO.p rfl (p_assign rfl) ?_
  refine AO.nil ?_
  refine AX.seq ?_
  refine AX.region ?_
  refine AO.p rfl (p_move rfl) ?_
  refine AO.p rfl (p_neq rfl rfl) ?_
  refine AO.nil ?_
  refine AX.cond rfl (fun c112 => ?_) (fun c112 => ?_)
  · have hd113 := bif_t c112 hd110
    refine AX.seq ?_
    refine AX.region ?_
    refine AO.p rfl (p_move rfl) ?_
    refine AO.p rfl (p_assign rfl) ?_
    refine AO.p rfl (p_assign rfl) ?_
    refine AO.nil ?_
    refine AX.ret ?_
    obtain ⟨rfl, rfl⟩ := Prod.mk.inj (some_inj hd113)
    exact ⟨.inr rfl, _, res2 rfl (rv_tmp rfl) (rv_tmp rfl), rfl, (flat_t2 (flatB_ok rfl) (flatB_ok rfl)), S106.hold⟩
  · have hd115 := bif_f c112 hd110
    refine AX.skip ?_
    refine AX.seq ?_
    refine AX.region ?_
    refine AO.c rfl (s_loadN (vs := [.int .i64 a0_0, .slice p_a0_1 a0_1.length c_a0_1]) Try.isAgg39 Try.sizeOf39 rfl rfl (row_cells (S106.get (k := 1) rfl))) ?_
    refine AO.c rfl (s_load Try.isAgg22 rfl (row_cell (S106.get (k := 0) rfl) rfl)) ?_
    obtain ⟨b116, h117, hd118⟩ := bnd_some hd115
    refine AO.c rfl (o_call (vs := [.agg [.int .i64 a0_0, .slice p_a0_1 a0_1.length c_a0_1].toArray, .slice p_a1 a1.length c_a1]) rfl Try.call82 (W_impl_Schedule_areVenues fu G104 a0_0 p_a0_1 c_a0_1 a0_1 a_a0_1 (S106.view v_a0_1) p_a1 c_a1 T_a1 a1 t_a1 (S106.view v_a1) (S106.tview w_a1) b116 h117)) ?_
    refine AO.p rfl (p_assign rfl) ?_
    refine AO.p rfl (p_assign rfl) ?_
    refine AO.nil ?_
    refine AX.ret ?_
    obtain ⟨rfl, rfl⟩ := Prod.mk.inj (some_inj hd118)
    exact ⟨.inr rfl, _, res2 rfl (rv_tmp rfl) (rv_tmp rfl), rfl, (flat_t2 (flatB_ok rfl) (flatB_ok rfl)), S106.hold⟩

end Go.Proofs.Ytpaaoafgahbokaa
