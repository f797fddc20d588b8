/-
  The program computes that, printed by a program. No condition.
-/
import Derived.Test.YtpaaoafgahbokaaDJ
import Derived.Test.YtpaaoafgahbokaaWS
import Derived.Test.YtpaaoafgahbokaaWE
import Derived.Test.YtpaaoafgahbokaaProg
import Derived.KernelRfl
namespace Go.Proofs.Ytpaaoafgahbokaa
open Go Go.RowKit Am
set_option linter.unusedVariables false
set_option linter.unusedSimpArgs false
set_option maxRecDepth 20000
set_option maxHeartbeats 4000000 in
theorem W_spec_l03Schedule (fu : Nat) (H : AHeap) (a0 : Int) (p_a1 : Option Addr) (c_a1 : Nat) (T_a1 : Tb) (a1 : List (List Int)) (t_a1 : trows T_a1 = a1) (v_a1 : Vw H p_a1 a1.length c_a1 (tcells T_a1)) (w_a1 : TVw H T_a1) (r0 : Int) (r1 : List (List Int)) (hd : D_spec_l03Schedule fu a0 a1 = some (r0, r1)) : ∃ v G', ACall Try.prog 90 [.int .i64 a0, .slice p_a1 a1.length c_a1] H v G' ∧ ∃ (p_r1 : Option Addr) (c_r1 : Nat), (v = .agg [.int .i64 r0, .slice p_r1 r1.length c_r1].toArray) ∧ St [] H G' [oseg p_r1 (ints r1.flatten)] ∧ Sb p_r1 r1.length c_r1 14 ∧ All 14 r1 := by
  refine ACall.bodyX (args := [.int .i64 a0, .slice p_a1 a1.length c_a1]) (N := 62) [(0, .int .i64 a0), (1, .slice p_a1 a1.length c_a1)] (fun v G' => ∃ (p_r1 : Option Addr) (c_r1 : Nat), (v = .agg [.int .i64 r0, .slice p_r1 r1.length c_r1].toArray) ∧ St [] H G' [oseg p_r1 (ints r1.flatten)] ∧ Sb p_r1 r1.length c_r1 14 ∧ All 14 r1) Try.func90 rfl rfl rfl rfl ?_
  unfold D_spec_l03Schedule at hd
  have S0 : St [] H H [] := St.nil H
  refine AX.seq ?_
  refine AX.region ?_
  obtain ⟨G100, i101, hii101, hHG100, S102⟩ := S0.new (AObj.row false ([.int .i64 0, .slice none 0 0]))
  refine AO.c rfl (s_alloc (i := i101) (cs := [.int .i64 0, .slice none 0 0]) Try.zeroValue39 rfl rfl hii101 hHG100) ?_
  refine AO.nil ?_
  refine AX.seq ?_
  refine AX.region ?_
  refine AO.p rfl (p_move rfl) ?_
  obtain ⟨k104, hd105⟩ := chk_some hd
  refine AO.p rfl (p_addE rfl rfl k104) ?_
  obtain ⟨G106, i107, hii107, hHG106, S108⟩ := S102.new (AObj.row false (ints [].flatten))
  refine AO.c rfl (s_build0 (i := i107) Try.underlying37 Try.sizeOf65 hii107 hHG106) ?_
  refine AO.p rfl (p_build2 (vs := [(0, .int .i64 (a0 + 1)), (1, .slice (some (Addr.mk i107 0 none)) 0 0)]) (cs := [.int .i64 (a0 + 1), .slice (some (Addr.mk i107 0 none)) 0 0]) Try.underlying39 rfl rfl rfl Try.sizeOf2 Try.sizeOf37 Try.zeroValue39 rfl rfl rfl rfl rfl) ?_
  obtain ⟨G110, i111, hii111, hHG110, S112⟩ := S108.new (AObj.row false ([.int .i64 0, .slice none 0 0]))
  refine AO.c rfl (s_alloc (i := i111) (cs := [.int .i64 0, .slice none 0 0]) Try.zeroValue39 rfl rfl hii111 hHG110) ?_
  obtain ⟨G114, hHG114, S115⟩ := S112.set (k := 0) (i := i111) rfl (AObj.row false ([.int .i64 (a0 + 1), .slice (some (Addr.mk i107 0 none)) 0 0]))
  refine AO.s (s_storeAll (vs := [.int .i64 (a0 + 1), .slice (some (Addr.mk i107 0 none)) 0 0]) Try.sizeOf39 rfl rfl (ones_list rfl) (S112.get (k := 0) rfl) rfl rfl hHG114) ?_
  refine AO.nil ?_
  refine AX.seq ?_
  refine AX.seq ?_
  refine AX.region ?_
  refine AO.p rfl (p_assign rfl) ?_
  refine AO.nil ?_
  obtain ⟨r1036, hl1037, hd1038⟩ := bnd_some hd105
  refine AX.cutQ (fun t' H' => ∃ (rs1035 : List (List Int)) (p1033 : Option Addr) (c1034 : Nat), rs1035 = r1036 ∧ St [] H H' [[(i101, AObj.row false ([.int .i64 0, .slice none 0 0]))], [(i111, AObj.row false ([.int .i64 (a0 + 1), .slice p1033 rs1035.length c1034]))], oseg p1033 (ints rs1035.flatten)] ∧ All 14 rs1035 ∧ Sb p1033 (rs1035.length) c1034 14 ∧ Am.Sub [(4, .pointer (some ⟨i101, 0, none⟩)), (5, .pointer (some ⟨i111, 0, none⟩))] t') ?_ ?_
  · refine AX.block ?_
    refine AX.loopF (fun s' t' H' => ∃ (rs729 : List (List Int)) (x730 : Int) (p727 : Option Addr) (c728 : Nat), (rs729, x730) = s' ∧ St [] H H' [[(i101, AObj.row false ([.int .i64 0, .slice none 0 0]))], [(i111, AObj.row false ([.int .i64 (a0 + 1), .slice p727 rs729.length c728]))], oseg p727 (ints rs729.flatten)] ∧ All 14 rs729 ∧ Sb p727 (rs729.length) c728 14 ∧ Am.Sub [(0, .int .i64 a0), (1, .slice p_a1 a1.length c_a1), (4, .pointer (some ⟨i101, 0, none⟩)), (5, .pointer (some ⟨i111, 0, none⟩)), (6, .int .i64 x730)] t') hl1037 ?_ ?_
    · skip
      have S1039 := S115.front 1 rfl
      have S1040 := S1039.front 1 rfl
      have S1041 := S1040.front 2 rfl
      exact ⟨[], 0, (some (Addr.mk i107 0 none)), 0, rfl, S1041, all_nil, (Sb.lit (n := 0) (by decide)), Sub.cons' rfl rfl (Sub.cons' rfl rfl (Sub.cons' rfl rfl (Sub.cons' rfl rfl (Sub.cons' rfl rfl (Sub.nil _)))))⟩
    · rintro n1042 _ t' G1046 ⟨rs729, x730, p727, c728, rfl, S1045, ars729, Bo726, hsub1047⟩ o1048 ho1043 hk1044
      refine AX.sub hsub1047 ?_
      unfold D_spec_l03Schedule_s0 at ho1043
      refine AX.seq ?_
      refine AX.seq ?_
      refine AX.region ?_
      refine AO.p rfl (p_move rfl) ?_
      refine AO.p rfl (p_move rfl) ?_
      refine AO.p rfl (p_lss rfl rfl) ?_
      refine AO.nil ?_
      refine AX.cond rfl (fun c1049 => ?_) (fun c1049 => ?_)
      · have hd1050 := bif_t c1049 ho1043
        refine AX.skip ?_
        refine AX.seq ?_
        refine AX.block ?_
        refine AX.seq ?_
        refine AX.region ?_
        refine AO.p rfl (p_move rfl) ?_
        refine AO.p rfl (p_move rfl) ?_
        obtain ⟨G1051, i1052, hii1052, hHG1051, S1053⟩ := S1045.new (AObj.row false (ints [a0, x730]))
        refine AO.c rfl (s_buildInts (i := i1052) (vs := [(0, .int .i64 a0), (1, .int .i64 x730)]) (xs := [a0, x730]) Try.underlying68 Try.sizeOf2 Try.zeroValue2 rfl rfl (by decide) rfl rfl hii1052 hHG1051) ?_
        obtain ⟨G1055, i1056, hii1056, hHG1055, S1057⟩ := S1053.new (AObj.row false (tcells ([((some (Addr.mk i1052 0 none)), 2, [a0, x730])])))
        have S1059 := (S1057.front 1 rfl).tone (some (Addr.mk i1052 0 none)) 2 [a0, x730] rfl
        refine AO.c rfl (s_buildT1 (i := i1056) (X := [((some (Addr.mk i1052 0 none)), 2, [a0, x730])]) (n := 2) rfl Try.underlying22 Try.sizeOf68 Try.zeroValue68 rfl rfl hii1056 hHG1055) ?_
        refine AO.p rfl (p_assign rfl) ?_
        refine AO.nil ?_
        refine AX.seq ?_
        refine AX.seq ?_
        refine AX.region ?_
        refine AO.p rfl (p_assign rfl) ?_
        refine AO.nil ?_
        obtain ⟨r1243, hl1244, hd1245⟩ := bnd_some hd1050
        refine AX.cutQ (fun t' H' => ∃ (rs1241 : List (List Int)) (p1239 : Option Addr) (c1240 : Nat) (T1242 : Tb), rs1241 = r1243 ∧ St [] H H' [[(i101, AObj.row false ([.int .i64 0, .slice none 0 0]))], [(i111, AObj.row false ([.int .i64 (a0 + 1), .slice p727 rs729.length c728]))], oseg p727 (ints rs729.flatten), oseg p1239 (tcells T1242), tseg T1242] ∧ trows T1242 = rs1241 ∧ TSb T1242 ∧ Sb p1239 (rs1241.length) c1240 1 ∧ Am.Sub [(0, .int .i64 a0), (1, .slice p_a1 a1.length c_a1), (4, .pointer (some ⟨i101, 0, none⟩)), (5, .pointer (some ⟨i111, 0, none⟩)), (6, .int .i64 x730), (7, .slice p1239 rs1241.length c1240)] t') ?_ ?_
        · refine AX.block ?_
          refine AX.loopF (fun s' t' H' => ∃ (rs1181 : List (List Int)) (x1183 : Int) (p1179 : Option Addr) (c1180 : Nat) (T1182 : Tb), (rs1181, x1183) = s' ∧ St [] H H' [[(i101, AObj.row false ([.int .i64 0, .slice none 0 0]))], [(i111, AObj.row false ([.int .i64 (a0 + 1), .slice p727 rs729.length c728]))], oseg p727 (ints rs729.flatten), oseg p1179 (tcells T1182), tseg T1182] ∧ trows T1182 = rs1181 ∧ TSb T1182 ∧ Sb p1179 (rs1181.length) c1180 1 ∧ Am.Sub [(0, .int .i64 a0), (1, .slice p_a1 a1.length c_a1), (4, .pointer (some ⟨i101, 0, none⟩)), (5, .pointer (some ⟨i111, 0, none⟩)), (6, .int .i64 x730), (7, .slice p1179 rs1181.length c1180), (8, .int .i64 x1183)] t') hl1244 ?_ ?_
          · skip
            have S1246 := S1059.front 0 rfl
            have S1247 := S1246.front 1 rfl
            have S1248 := S1247.front 4 rfl
            have S1249 := S1248.front 4 rfl
            have S1250 := S1249.front 4 rfl
            exact ⟨([[a0, x730]]), 0, (some (Addr.mk i1056 0 none)), 1, ([((some (Addr.mk i1052 0 none)), 2, [a0, x730])]), rfl, S1250, rfl, (TSb.one (sb_len rfl (Sb.lit (n := 2) (by decide)))), (Sb.lit (n := 1) (by decide)), Sub.cons' rfl rfl (Sub.cons' rfl rfl (Sub.cons' rfl rfl (Sub.cons' rfl rfl (Sub.cons' rfl rfl (Sub.cons' rfl (sl_n (Eq.symm rfl)) (Sub.cons' rfl rfl (Sub.nil _)))))))⟩
          · rintro n1251 _ t' G1255 ⟨rs1181, x1183, p1179, c1180, T1182, rfl, S1254, tT1182, sT1182, Bo1178, hsub1256⟩ o1257 ho1252 hk1253
            refine AX.sub hsub1256 ?_
            unfold D_spec_l03Schedule_s1 at ho1252
            refine AX.seq ?_
            refine AX.seq ?_
            refine AX.region ?_
            refine AO.p rfl (p_move rfl) ?_
            refine AO.p rfl (p_move rfl) ?_
            refine AO.p rfl (p_len_slice rfl Try.underlying22) ?_
            refine AO.p rfl (p_lss rfl rfl) ?_
            refine AO.nil ?_
            refine AX.cond rfl (fun c1258 => ?_) (fun c1258 => ?_)
            · have hd1259 := bif_t c1258 ho1252
              refine AX.skip ?_
              refine AX.seq ?_
              refine AX.block ?_
              refine DR.startS [false, false, false, false, false, false, false, false, false, false, false, false, false, false, false, false, false, false, false, false, false, false, false, true, false] mix (by kernel_rfl) (fun hst => ?_)
              refine DR.p rfl rfl (p_move rfl) ?_
              refine DR.p rfl rfl (p_move rfl) ?_
              refine DR.p rfl rfl (p_move rfl) ?_
              obtain ⟨k1260, hd1261⟩ := chk_some hd1259
              obtain ⟨p1262, c1263, e1264, f1265⟩ := tget t_a1 (lt_len rfl (inR_lt k1260))
              refine DR.p rfl rfl (s_indexV (q := off p_a1 + x1183.toNat) Try.underlying22 Try.sizeOf68 rfl ((S1254.view v_a1).p f1265) rfl k1260 (o1 _ _)) ?_
              refine DR.r rfl rfl (r_load rfl Try.isAgg68) (one_read ((S1254.view v_a1).get _ _ f1265) (TVw.at (S1254.tview w_a1) e1264).inn.bel) ?_
              obtain ⟨k1266, hd1267⟩ := chk_some hd1261
              refine DR.p rfl rfl (s_indexV (q := off p1262 + 0) Try.underlying68 Try.sizeOf2 rfl ((TVw.at (S1254.tview w_a1) e1264).p (ints_get (lt_len rfl (inR_lt k1266)))) rfl k1266 (o1 _ _)) ?_
              refine DR.r rfl rfl (r_load rfl Try.isAgg2) (one_read ((TVw.at (S1254.tview w_a1) e1264).get _ _ (ints_get (lt_len rfl (inR_lt k1266)))) (.of_flat0 rfl)) ?_
              refine DR.p rfl rfl (p_move rfl) ?_
              obtain ⟨k1268, hd1269⟩ := chk_some hd1267
              refine DR.p rfl rfl (p_addE rfl rfl k1268) ?_
              refine DR.p rfl rfl (p_move rfl) ?_
              obtain ⟨k1270, hd1271⟩ := chk_some hd1269
              refine DR.p rfl rfl (p_remE rfl rfl k1270) ?_
              refine DR.p rfl rfl (p_move rfl) ?_
              refine DR.p rfl rfl (p_move rfl) ?_
              obtain ⟨k1272, hd1273⟩ := chk_some hd1271
              obtain ⟨p1274, c1275, e1276, f1277⟩ := tget t_a1 (lt_len rfl (inR_lt k1272))
              refine DR.p rfl rfl (s_indexV (q := off p_a1 + x1183.toNat) Try.underlying22 Try.sizeOf68 rfl ((S1254.view v_a1).p f1277) rfl k1272 (o1 _ _)) ?_
              refine DR.r rfl rfl (r_load rfl Try.isAgg68) (one_read ((S1254.view v_a1).get _ _ f1277) (TVw.at (S1254.tview w_a1) e1276).inn.bel) ?_
              obtain ⟨k1278, hd1279⟩ := chk_some hd1273
              refine DR.p rfl rfl (s_indexV (q := off p1274 + 1) Try.underlying68 Try.sizeOf2 rfl ((TVw.at (S1254.tview w_a1) e1276).p (ints_get (lt_len rfl (inR_lt k1278)))) rfl k1278 (o1 _ _)) ?_
              refine DR.r rfl rfl (r_load rfl Try.isAgg2) (one_read ((TVw.at (S1254.tview w_a1) e1276).get _ _ (ints_get (lt_len rfl (inR_lt k1278)))) (.of_flat0 rfl)) ?_
              refine DR.p rfl rfl (p_move rfl) ?_
              obtain ⟨k1280, hd1281⟩ := chk_some hd1279
              refine DR.p rfl rfl (p_addE rfl rfl k1280) ?_
              refine DR.p rfl rfl (p_move rfl) ?_
              obtain ⟨k1282, hd1283⟩ := chk_some hd1281
              refine DR.p rfl rfl (p_remE rfl rfl k1282) ?_
              obtain ⟨G1284, i1285, hii1285, hHG1284, S1286⟩ := S1254.new (AObj.row false (ints [(rd (rw_ a1 x1183.toNat) 0 + x730).tmod a0, (rd (rw_ a1 x1183.toNat) 1 + x730).tmod a0]))
              refine DR.a rfl rfl hii1285 hHG1284 (a_buildInts (vs := [(0, .int .i64 ((rd (rw_ a1 x1183.toNat) 0 + x730).tmod a0)), (1, .int .i64 ((rd (rw_ a1 x1183.toNat) 1 + x730).tmod a0))]) (xs := [(rd (rw_ a1 x1183.toNat) 0 + x730).tmod a0, (rd (rw_ a1 x1183.toNat) 1 + x730).tmod a0]) Try.underlying68 Try.sizeOf2 Try.zeroValue2 rfl rfl (by decide) rfl rfl) ?_
              obtain ⟨G1288, i1289, hii1289, hHG1288, S1290⟩ := S1286.new (AObj.row false (tcells ([((some (Addr.mk i1285 0 none)), 2, [(rd (rw_ a1 x1183.toNat) 0 + x730).tmod a0, (rd (rw_ a1 x1183.toNat) 1 + x730).tmod a0])])))
              have S1292 := (S1290.front 1 rfl).tone (some (Addr.mk i1285 0 none)) 2 [(rd (rw_ a1 x1183.toNat) 0 + x730).tmod a0, (rd (rw_ a1 x1183.toNat) 1 + x730).tmod a0] rfl
              refine DR.a rfl rfl hii1289 hHG1288 (a_buildT1 (X := [((some (Addr.mk i1285 0 none)), 2, [(rd (rw_ a1 x1183.toNat) 0 + x730).tmod a0, (rd (rw_ a1 x1183.toNat) 1 + x730).tmod a0])]) (n := 2) rfl Try.underlying22 Try.sizeOf68 Try.zeroValue68 rfl rfl) ?_
              obtain ⟨k1293, hd1294⟩ := chk_some hd1283
              obtain ⟨p1295, c1296, G1297, haG1297, S1298, Bp1295⟩ := S1292.app (k := 5) rfl Bo1178 (tcells ([((some (Addr.mk i1285 0 none)), 2, [(rd (rw_ a1 x1183.toNat) 0 + x730).tmod a0, (rd (rw_ a1 x1183.toNat) 1 + x730).tmod a0])])) 1 (tc_len1 rfl rfl)
              have S1299 := S1298.cellsEq (k := 5) (us' := tcells (T1182 ++ [((some (Addr.mk i1285 0 none)), 2, [(rd (rw_ a1 x1183.toNat) 0 + x730).tmod a0, (rd (rw_ a1 x1183.toNat) 1 + x730).tmod a0])])) (tcells_app _ _).symm rfl
              have BS1299 : Sb p1295 ((rs1181 ++ [[(rd (rw_ a1 x1183.toNat) 0 + x730).tmod a0, (rd (rw_ a1 x1183.toNat) 1 + x730).tmod a0]]).length) c1296 1 := (show rs1181.length + 1 = (rs1181 ++ [[(rd (rw_ a1 x1183.toNat) 0 + x730).tmod a0, (rd (rw_ a1 x1183.toNat) 1 + x730).tmod a0]]).length from len_app (a := rs1181) (b := [[(rd (rw_ a1 x1183.toNat) 0 + x730).tmod a0, (rd (rw_ a1 x1183.toNat) 1 + x730).tmod a0]]) rfl rfl) ▸ Bp1295
              have S1300 := S1299.front 0 rfl
              have S1301 := (S1300.front 6 rfl).tmerge
              have S1302 := S1301.drop 1 rfl
              refine DR.w rfl rfl (s_app (by_ := 24) (us := tcells T1182) (vs := tcells ([((some (Addr.mk i1285 0 none)), 2, [(rd (rw_ a1 x1183.toNat) 0 + x730).tmod a0, (rd (rw_ a1 x1183.toNat) 1 + x730).tmod a0])])) Try.underlying22 Try.underlying22 Try.typeInfo68 Try.sizeOf68 Try.zeroValue68 rfl rfl rfl rfl rfl rfl rfl (S1292.buf (k := 5) rfl Bo1178 (tc_len1 tT1182 rfl)) (S1292.oview (k := 1) rfl (Sb.lit (n := 1) (by decide)) (tc_len1 rfl rfl)) (tc_len1 rfl rfl) tcells_one k1293 haG1297 (show rs1181.length + 1 = (rs1181 ++ [[(rd (rw_ a1 x1183.toNat) 0 + x730).tmod a0, (rd (rw_ a1 x1183.toNat) 1 + x730).tmod a0]]).length from len_app (a := rs1181) (b := [[(rd (rw_ a1 x1183.toNat) 0 + x730).tmod a0, (rd (rw_ a1 x1183.toNat) 1 + x730).tmod a0]]) rfl rfl)) (appR_len haG1297) ?_
              refine DR.p rfl rfl (p_assign rfl) ?_
              refine DR.nil 25 [] hst (by kernel_rfl) trivial ?_
              refine AX.region ?_
              refine AO.p rfl (p_move rfl) ?_
              obtain ⟨k1303, hd1304⟩ := chk_some hd1294
              refine AO.p rfl (p_addE rfl rfl k1303) ?_
              refine AO.p rfl (p_assign rfl) ?_
              refine AO.nil ?_
              obtain rfl := some_inj hd1304
              have S1306 := S1302.front 0 rfl
              have S1307 := S1306.front 4 rfl
              have S1308 := S1307.front 4 rfl
              have S1309 := S1308.front 4 rfl
              have S1310 := S1309.front 4 rfl
              exact ⟨((rs1181 ++ [[(rd (rw_ a1 x1183.toNat) 0 + x730).tmod a0, (rd (rw_ a1 x1183.toNat) 1 + x730).tmod a0]]), x1183 + 1), hk1253, (rs1181 ++ [[(rd (rw_ a1 x1183.toNat) 0 + x730).tmod a0, (rd (rw_ a1 x1183.toNat) 1 + x730).tmod a0]]), (x1183 + 1), p1295, c1296, (T1182 ++ [((some (Addr.mk i1285 0 none)), 2, [(rd (rw_ a1 x1183.toNat) 0 + x730).tmod a0, (rd (rw_ a1 x1183.toNat) 1 + x730).tmod a0])]), rfl, S1310, (trows_apps tT1182 rfl), (TSb.app sT1182 (TSb.one (sb_len rfl (Sb.lit (n := 2) (by decide))))), BS1299, Sub.cons' rfl rfl (Sub.cons' rfl rfl (Sub.cons' rfl rfl (Sub.cons' rfl rfl (Sub.cons' rfl rfl (Sub.cons' rfl rfl (Sub.cons' rfl rfl (Sub.nil _)))))))⟩
            · have hd1311 := bif_f c1258 ho1252
              refine AX.exit ?_
              obtain rfl := some_inj hd1311
              have S1312 := S1254.front 4 rfl
              have S1313 := S1312.front 4 rfl
              have S1314 := S1313.front 4 rfl
              have S1315 := S1314.front 4 rfl
              have S1316 := S1315.front 4 rfl
              exact ⟨rs1181, p1179, c1180, T1182, hk1253, S1316, tT1182, sT1182, Bo1178, Sub.cons' rfl rfl (Sub.cons' rfl rfl (Sub.cons' rfl rfl (Sub.cons' rfl rfl (Sub.cons' rfl rfl (Sub.cons' rfl rfl (Sub.nil _))))))⟩
        · rintro t' G1318 ⟨rs1241, p1239, c1240, T1242, rfl, S1317, tT1242, sT1242, Bo1238, hsub1319⟩
          refine AX.sub hsub1319 ?_
          refine DR.startS [false, false, false, false, false, true, false, true, false, true] mix (by kernel_rfl) (fun hst => ?_)
          refine DR.p rfl rfl (s_fieldAddr Try.underlying39 rfl Try.sizeOf37 (by decide) rfl rfl) ?_
          refine DR.r rfl rfl (r_load rfl Try.isAgg37) (one_read (row_cell (S1317.get (k := 1) rfl) rfl) (S1317.oin (k := 2) rfl Bo726).bel) ?_
          refine DR.p rfl rfl (p_move rfl) ?_
          obtain ⟨k1320, hd1321⟩ := chk_some hd1245
          refine DR.p rfl rfl (p_addE rfl rfl k1320) ?_
          refine DR.p rfl rfl (p_move rfl) ?_
          obtain ⟨xs1322, h1323, hd1324⟩ := bnd_some hd1321
          obtain ⟨hc1326, l1327⟩ := W_spec_l01Made fu G1318 (a0 + 1) p1239 c1240 T1242 rs1241 tT1242 (S1317.oview (k := 3) rfl Bo1238 (tc_len1 tT1242 rfl)) (S1317.oviewT (k := 4) rfl sT1242) xs1322 h1323
          refine DR.w rfl rfl (o_call (vs := [.int .i64 (a0 + 1), .slice p1239 rs1241.length c1240]) rfl Try.call132 hc1326) (Nat.le_refl _) ?_
          obtain ⟨G1328, i1329, hii1329, hHG1328, S1330⟩ := S1317.new (AObj.row false (ints [xs1322].flatten))
          refine DR.a rfl rfl hii1329 hHG1328 (a_build1 (r := xs1322) (zr := List.replicate 14 0) Try.underlying37 Try.sizeOf65 Try.zeroValue65 rfl rfl (by decide) (by decide) rfl l1327) ?_
          obtain ⟨k1332, hd1333⟩ := chk_some hd1324
          obtain ⟨p1334, c1335, G1336, haG1336, S1337, Bp1334⟩ := S1330.app (k := 3) rfl Bo726 (ints [xs1322].flatten) 1 (flat_len1 (all_one l1327) rfl)
          have S1338 := S1337.cellsEq (k := 3) (us' := ints (rs729 ++ [xs1322]).flatten) (intsf_app _ _) rfl
          have BS1338 : Sb p1334 ((rs729 ++ [xs1322]).length) c1335 14 := (show rs729.length + 1 = (rs729 ++ [xs1322]).length from len_app (a := rs729) (b := [xs1322]) rfl rfl) ▸ Bp1334
          have S1339 := S1338.drop 0 rfl
          refine DR.w rfl rfl (s_app (by_ := 112) (us := ints rs729.flatten) (vs := ints [xs1322].flatten) Try.underlying37 Try.underlying37 Try.typeInfo65 Try.sizeOf65 Try.zeroValue65 rfl rfl rfl rfl rfl rfl rfl (S1330.buf (k := 3) rfl Bo726 (flat_len1 ars729 rfl)) (S1330.oview (k := 0) rfl (Sb.lit (n := 1) (by decide)) (flat_len1 (all_one l1327) rfl)) (flat_len1 (all_one l1327) rfl) ints_one k1332 haG1336 (show rs729.length + 1 = (rs729 ++ [xs1322]).length from len_app (a := rs729) (b := [xs1322]) rfl rfl)) (appR_len haG1336) ?_
          refine DR.p rfl rfl (s_fieldAddr Try.underlying39 rfl Try.sizeOf37 (by decide) rfl rfl) ?_
          obtain ⟨G1340, hHG1340, S1341⟩ := S1339.set (k := 1) (i := i111) rfl (AObj.row false ([.int .i64 (a0 + 1), .slice p1334 ((rs729 ++ [xs1322]).length) c1335]))
          refine DR.s rfl (s_store Try.sizeOf37 rfl rfl rfl (S1339.get (k := 1) rfl) (Nat.le_of_ble_eq_true rfl) hHG1340) (set_le hHG1340) ?_
          refine DR.nil 10 [(1, 5)] hst (by kernel_rfl) ⟨(rd1 (fun _ => rfl)), trivial⟩ ?_
          refine AX.region ?_
          refine AO.p rfl (p_move rfl) ?_
          obtain ⟨k1342, hd1343⟩ := chk_some hd1333
          refine AO.p rfl (p_addE rfl rfl k1342) ?_
          refine AO.p rfl (p_assign rfl) ?_
          refine AO.nil ?_
          obtain rfl := some_inj hd1343
          have S1345 := S1341.front 2 rfl
          have S1346 := S1345.front 2 rfl
          have S1347 := S1346.front 2 rfl
          have S1348 := S1347.keep 3
          exact ⟨((rs729 ++ [xs1322]), x730 + 1), hk1044, (rs729 ++ [xs1322]), (x730 + 1), p1334, c1335, rfl, S1348, (all_app ars729 (all_one l1327)), BS1338, Sub.cons' rfl rfl (Sub.cons' rfl rfl (Sub.cons' rfl rfl (Sub.cons' rfl rfl (Sub.cons' rfl rfl (Sub.nil _)))))⟩
      · have hd1349 := bif_f c1049 ho1043
        refine AX.exit ?_
        obtain rfl := some_inj hd1349
        have S1350 := S1045.front 2 rfl
        have S1351 := S1350.front 2 rfl
        have S1352 := S1351.front 2 rfl
        exact ⟨rs729, p727, c728, hk1044, S1352, ars729, Bo726, Sub.cons' rfl rfl (Sub.cons' rfl rfl (Sub.nil _))⟩
  · rintro t' G1354 ⟨rs1035, p1033, c1034, rfl, S1353, ars1035, Bo1032, hsub1355⟩
    refine AX.sub hsub1355 ?_
    refine AX.seq ?_
    refine AX.region ?_
    refine AO.c rfl (s_loadN (vs := [.int .i64 (a0 + 1), .slice p1033 rs1035.length c1034]) Try.isAgg39 Try.sizeOf39 rfl rfl (row_cells (S1353.get (k := 1) rfl))) ?_
    obtain ⟨G1356, hHG1356, S1357⟩ := S1353.set (k := 0) (i := i101) rfl (AObj.row false ([.int .i64 (a0 + 1), .slice p1033 rs1035.length c1034]))
    refine AO.s (s_storeAll (vs := [.int .i64 (a0 + 1), .slice p1033 rs1035.length c1034]) Try.sizeOf39 rfl rfl (ones_list rfl) (S1353.get (k := 0) rfl) rfl rfl hHG1356) ?_
    refine AO.nil ?_
    refine AX.ret ?_
    obtain ⟨rfl, rfl⟩ := Prod.mk.inj (some_inj hd1038)
    have S1359 := S1357.front 2 rfl
    have S1360 := S1359.keep 1
    exact ⟨.inr rfl, _, res1 rfl (rv_cell (vs := [.int .i64 (a0 + 1), .slice p1033 rs1035.length c1034]) rfl Try.isAgg39 Try.sizeOf39 rfl (row_cells (S1357.get (k := 0) rfl))), p1033, c1034, rfl, S1360, Bo1032, ars1035⟩

set_option maxHeartbeats 4000000 in
theorem W_spec_ScheduleOfStarter (fu : Nat) (H : AHeap) (a0 : Int) (p_a1 : Option Addr) (c_a1 : Nat) (T_a1 : Tb) (a1 : List (List Int)) (t_a1 : trows T_a1 = a1) (v_a1 : Vw H p_a1 a1.length c_a1 (tcells T_a1)) (w_a1 : TVw H T_a1) (r0 : Int) (r1 : List (List Int)) (r2 : Int) (hd : D_spec_ScheduleOfStarter fu a0 a1 = some (r0, r1, r2)) : ∃ v G', ACall Try.prog 40 [.int .i64 a0, .slice p_a1 a1.length c_a1] H v G' ∧ ∃ (p_r1 : Option Addr) (c_r1 : Nat), (v = .tuple #[.agg [.int .i64 r0, .slice p_r1 r1.length c_r1].toArray, .int .i64 r2]) ∧ St [] H G' [oseg p_r1 (ints r1.flatten)] ∧ Sb p_r1 r1.length c_r1 14 ∧ All 14 r1 := by
  refine ACall.bodyX (args := [.int .i64 a0, .slice p_a1 a1.length c_a1]) (N := 17) [(0, .int .i64 a0), (1, .slice p_a1 a1.length c_a1)] (fun v G' => ∃ (p_r1 : Option Addr) (c_r1 : Nat), (v = .tuple #[.agg [.int .i64 r0, .slice p_r1 r1.length c_r1].toArray, .int .i64 r2]) ∧ St [] H G' [oseg p_r1 (ints r1.flatten)] ∧ Sb p_r1 r1.length c_r1 14 ∧ All 14 r1) Try.func40 rfl rfl rfl rfl ?_
  unfold D_spec_ScheduleOfStarter at hd
  have S0 : St [] H H [] := St.nil H
  refine AX.seq ?_
  refine AX.region ?_
  obtain ⟨G100, i101, hii101, hHG100, S102⟩ := S0.new (AObj.row false ([.int .i64 0, .slice none 0 0]))
  refine AO.c rfl (s_alloc (i := i101) (cs := [.int .i64 0, .slice none 0 0]) Try.zeroValue39 rfl rfl hii101 hHG100) ?_
  refine AO.p rfl (p_assign rfl) ?_
  refine AO.nil ?_
  refine AX.seq ?_
  refine AX.seq ?_
  refine AX.region ?_
  refine AO.p rfl (p_move rfl) ?_
  refine AO.p rfl (p_move rfl) ?_
  obtain ⟨x104, h105, hd106⟩ := bnd_some hd
  refine AO.c rfl (o_call (vs := [.int .i64 a0, .slice p_a1 a1.length c_a1]) rfl Try.call89 (W_spec_l03Code fu G100 a0 p_a1 c_a1 T_a1 a1 t_a1 (S102.view v_a1) (S102.tview w_a1) x104 h105)) ?_
  refine AO.p rfl (p_assign rfl) ?_
  refine AO.nil ?_
  refine AX.seq ?_
  refine AX.region ?_
  refine AO.p rfl (p_move rfl) ?_
  refine AO.p rfl (p_neq rfl rfl) ?_
  refine AO.nil ?_
  refine AX.cond rfl (fun c108 => ?_) (fun c108 => ?_)
  · have hd109 := bif_t c108 hd106
    refine AX.seq ?_
    refine AX.region ?_
    refine AO.p rfl (p_build2 (vs := []) (cs := [.int .i64 0, .slice none 0 0]) Try.underlying39 rfl rfl rfl Try.sizeOf2 Try.sizeOf37 Try.zeroValue39 rfl rfl rfl rfl rfl) ?_
    refine AO.p rfl (p_move rfl) ?_
    obtain ⟨G110, hHG110, S111⟩ := S102.set (k := 0) (i := i101) rfl (AObj.row false ([.int .i64 0, .slice none 0 0]))
    refine AO.s (s_storeAll (vs := [.int .i64 0, .slice none 0 0]) Try.sizeOf39 rfl rfl (ones_list rfl) (S102.get (k := 0) rfl) rfl rfl hHG110) ?_
    refine AO.p rfl (p_assign rfl) ?_
    refine AO.nil ?_
    refine AX.ret ?_
    obtain ⟨rfl, z112⟩ := Prod.mk.inj (some_inj hd109)
    obtain ⟨rfl, rfl⟩ := Prod.mk.inj z112
    have S114 : St [] H G110 (oseg none (ints (List.flatten [])) :: _) := S111.nilseg 0
    have S115 := S114.keep 1
    exact ⟨.inr rfl, _, res2 rfl (rv_cell (vs := [.int .i64 0, .slice none 0 0]) rfl Try.isAgg39 Try.sizeOf39 rfl (row_cells (S111.get (k := 0) rfl))) (rv_tmp rfl), none, 0, rfl, S115, Sb.nil, all_nil⟩
  · have hd116 := bif_f c108 hd106
    refine AX.skip ?_
    refine AX.seq ?_
    refine AX.region ?_
    refine AO.p rfl (p_move rfl) ?_
    refine AO.p rfl (p_move rfl) ?_
    obtain ⟨⟨x117, rs118⟩, h119, hd120⟩ := bnd_some hd116
    obtain ⟨_, G127, hc126, p121, c122, rfl, S128, B124, a125⟩ := W_spec_l03Schedule fu G100 a0 p_a1 c_a1 T_a1 a1 t_a1 (S102.view v_a1) (S102.tview w_a1) x117 rs118 h119
    have S129 := S102.call S128
    refine AO.c rfl (o_call (vs := [.int .i64 a0, .slice p_a1 a1.length c_a1]) rfl Try.call90 hc126) ?_
    obtain ⟨G130, hHG130, S131⟩ := S129.set (k := 1) (i := i101) rfl (AObj.row false ([.int .i64 x117, .slice p121 rs118.length c122]))
    refine AO.s (s_storeAll (vs := [.int .i64 x117, .slice p121 rs118.length c122]) Try.sizeOf39 rfl rfl (ones_list rfl) (S129.get (k := 1) rfl) rfl rfl hHG130) ?_
    refine AO.p rfl (p_assign rfl) ?_
    refine AO.nil ?_
    refine AX.ret ?_
    obtain ⟨rfl, z132⟩ := Prod.mk.inj (some_inj hd120)
    obtain ⟨rfl, rfl⟩ := Prod.mk.inj z132
    have S134 := S131.front 0 rfl
    have S135 := S134.keep 1
    exact ⟨.inr rfl, _, res2 rfl (rv_cell (vs := [.int .i64 x117, .slice p121 rs118.length c122]) rfl Try.isAgg39 Try.sizeOf39 rfl (row_cells (S131.get (k := 1) rfl))) (rv_tmp rfl), p121, c122, rfl, S135, B124, a125⟩

set_option maxHeartbeats 4000000 in
theorem W_impl_ScheduleOfStarter (fu : Nat) (H : AHeap) (a0 : Int) (p_a1 : Option Addr) (c_a1 : Nat) (T_a1 : Tb) (a1 : List (List Int)) (t_a1 : trows T_a1 = a1) (v_a1 : Vw H p_a1 a1.length c_a1 (tcells T_a1)) (w_a1 : TVw H T_a1) (r0 : Int) (r1 : List (List Int)) (r2 : Int) (hd : D_impl_ScheduleOfStarter fu a0 a1 = some (r0, r1, r2)) : ∃ v G', ACall Try.prog 41 [.int .i64 a0, .slice p_a1 a1.length c_a1] H v G' ∧ ∃ (p_r1 : Option Addr) (c_r1 : Nat), (v = .tuple #[.agg [.int .i64 r0, .slice p_r1 r1.length c_r1].toArray, .int .i64 r2]) ∧ St [] H G' [oseg p_r1 (ints r1.flatten)] ∧ Sb p_r1 r1.length c_r1 14 ∧ All 14 r1 := by
  refine ACall.bodyX (args := [.int .i64 a0, .slice p_a1 a1.length c_a1]) (N := 63) [(0, .int .i64 a0), (1, .slice p_a1 a1.length c_a1)] (fun v G' => ∃ (p_r1 : Option Addr) (c_r1 : Nat), (v = .tuple #[.agg [.int .i64 r0, .slice p_r1 r1.length c_r1].toArray, .int .i64 r2]) ∧ St [] H G' [oseg p_r1 (ints r1.flatten)] ∧ Sb p_r1 r1.length c_r1 14 ∧ All 14 r1) Try.func41 rfl rfl rfl rfl ?_
  unfold D_impl_ScheduleOfStarter at hd
  have S0 : St [] H H [] := St.nil H
  refine AX.seq ?_
  refine AX.region ?_
  obtain ⟨G100, i101, hii101, hHG100, S102⟩ := S0.new (AObj.row false ([.int .i64 0, .slice none 0 0]))
  refine AO.c rfl (s_alloc (i := i101) (cs := [.int .i64 0, .slice none 0 0]) Try.zeroValue39 rfl rfl hii101 hHG100) ?_
  refine AO.p rfl (p_assign rfl) ?_
  refine AO.nil ?_
  refine AX.seq ?_
  refine AX.seq ?_
  refine AX.region ?_
  refine AO.p rfl (p_move rfl) ?_
  refine AO.p rfl (p_move rfl) ?_
  obtain ⟨G104, i105, hii105, hHG104, S106⟩ := S102.new (AObj.row false ([.slice p_a1 a1.length c_a1]))
  refine AO.c rfl (s_buildSl (i := i105) (vs := [(0, .slice p_a1 a1.length c_a1)]) (cs := [.slice p_a1 a1.length c_a1]) Try.underlying132 Try.sizeOf22 Try.zeroValue22 rfl rfl (by decide) rfl rfl hii105 hHG104) ?_
  obtain ⟨x108, h109, hd110⟩ := bnd_some hd
  refine AO.c rfl (o_call (vs := [.int .i64 a0, .func (.func 74) #[] #[], .slice (some (Addr.mk i105 0 none)) 1 1]) rfl Try.call91 (W_impl_starterCode fu G104 a0 74 #[] #[] (fun _ => D_impl_always fu ) Try.call74 (fun G' hG  b' hb' => W_impl_always fu G'  b' hb') (some (Addr.mk i105 0 none)) 1 [(p_a1, c_a1, T_a1)] [a1] (trows3_1 t_a1) (vw3_1 (S106.get (k := 0) rfl) t_a1 rfl) (TVw3.cons (S106.view v_a1) t_a1 rfl (S106.tview w_a1) TVw3.nil) x108 h109)) ?_
  refine AO.p rfl (p_assign rfl) ?_
  refine AO.nil ?_
  refine AX.seq ?_
  refine AX.region ?_
  refine AO.p rfl (p_move rfl) ?_
  refine AO.p rfl (p_neq rfl rfl) ?_
  refine AO.nil ?_
  refine AX.cond rfl (fun c112 => ?_) (fun c112 => ?_)
  · have hd113 := bif_t c112 hd110
    refine AX.seq ?_
    refine AX.region ?_
    refine AO.p rfl (p_build2 (vs := []) (cs := [.int .i64 0, .slice none 0 0]) Try.underlying39 rfl rfl rfl Try.sizeOf2 Try.sizeOf37 Try.zeroValue39 rfl rfl rfl rfl rfl) ?_
    refine AO.p rfl (p_move rfl) ?_
    obtain ⟨G114, hHG114, S115⟩ := S106.set (k := 1) (i := i101) rfl (AObj.row false ([.int .i64 0, .slice none 0 0]))
    refine AO.s (s_storeAll (vs := [.int .i64 0, .slice none 0 0]) Try.sizeOf39 rfl rfl (ones_list rfl) (S106.get (k := 1) rfl) rfl rfl hHG114) ?_
    refine AO.p rfl (p_assign rfl) ?_
    refine AO.nil ?_
    refine AX.ret ?_
    obtain ⟨rfl, z116⟩ := Prod.mk.inj (some_inj hd113)
    obtain ⟨rfl, rfl⟩ := Prod.mk.inj z116
    have S118 : St [] H G114 (oseg none (ints (List.flatten [])) :: _) := S115.nilseg 0
    have S119 := S118.keep 1
    exact ⟨.inr rfl, _, res2 rfl (rv_cell (vs := [.int .i64 0, .slice none 0 0]) rfl Try.isAgg39 Try.sizeOf39 rfl (row_cells (S115.get (k := 1) rfl))) (rv_tmp rfl), none, 0, rfl, S119, Sb.nil, all_nil⟩
  · have hd120 := bif_f c112 hd110
    refine AX.skip ?_
    refine AX.seq ?_
    refine AX.region ?_
    refine AO.p rfl (p_move rfl) ?_
    obtain ⟨k121, hd122⟩ := chk_some hd120
    refine AO.p rfl (p_addE rfl rfl k121) ?_
    refine AO.p rfl (p_build2 (vs := [(0, .int .i64 (a0 + 1))]) (cs := [.int .i64 (a0 + 1), .slice none 0 0]) Try.underlying39 rfl rfl rfl Try.sizeOf2 Try.sizeOf37 Try.zeroValue39 rfl rfl rfl rfl rfl) ?_
    obtain ⟨G123, i124, hii124, hHG123, S125⟩ := S106.new (AObj.row false ([.int .i64 0, .slice none 0 0]))
    refine AO.c rfl (s_alloc (i := i124) (cs := [.int .i64 0, .slice none 0 0]) Try.zeroValue39 rfl rfl hii124 hHG123) ?_
    obtain ⟨G127, hHG127, S128⟩ := S125.set (k := 0) (i := i124) rfl (AObj.row false ([.int .i64 (a0 + 1), .slice none 0 0]))
    refine AO.s (s_storeAll (vs := [.int .i64 (a0 + 1), .slice none 0 0]) Try.sizeOf39 rfl rfl (ones_list rfl) (S125.get (k := 0) rfl) rfl rfl hHG127) ?_
    refine AO.nil ?_
    refine AX.seq ?_
    refine AX.seq ?_
    refine AX.region ?_
    refine AO.p rfl (p_move rfl) ?_
    refine AO.p rfl (p_move rfl) ?_
    refine AO.nil ?_
    obtain ⟨r833, hl834, hd835⟩ := bnd_some hd122
    refine AX.cutQ (fun t' H' => ∃ (rs832 : List (List Int)) (p830 : Option Addr) (c831 : Nat), rs832 = r833 ∧ St [] H H' [[(i101, AObj.row false ([.int .i64 0, .slice none 0 0]))], [(i124, AObj.row false ([.int .i64 (a0 + 1), .slice p830 rs832.length c831]))], oseg p830 (ints rs832.flatten)] ∧ All 14 rs832 ∧ Sb p830 (rs832.length) c831 14 ∧ Am.Sub [(4, .pointer (some ⟨i101, 0, none⟩)), (7, .pointer (some ⟨i124, 0, none⟩))] t') ?_ ?_
    · refine AX.block ?_
      refine AX.loopF (fun s' t' H' => ∃ (rs596 : List (List Int)) (x597 : Int) (p594 : Option Addr) (c595 : Nat), (rs596, x597) = s' ∧ St [] H H' [[(i101, AObj.row false ([.int .i64 0, .slice none 0 0]))], [(i124, AObj.row false ([.int .i64 (a0 + 1), .slice p594 rs596.length c595]))], oseg p594 (ints rs596.flatten)] ∧ All 14 rs596 ∧ Sb p594 (rs596.length) c595 14 ∧ Am.Sub [(0, .int .i64 a0), (1, .slice p_a1 a1.length c_a1), (4, .pointer (some ⟨i101, 0, none⟩)), (7, .pointer (some ⟨i124, 0, none⟩)), (23, .int .i64 a0), (24, .int .i64 x597)] t') hl834 ?_ ?_
      · skip
        have S836 : St [] H G127 (oseg none (ints (List.flatten [])) :: _) := S128.nilseg 0
        have S837 := S836.front 1 rfl
        have S838 := S837.front 3 rfl
        have S839 := S838.keep 3
        exact ⟨[], 0, none, 0, rfl, S839, all_nil, Sb.nil, Sub.cons' rfl rfl (Sub.cons' rfl rfl (Sub.cons' rfl rfl (Sub.cons' rfl rfl (Sub.cons' rfl rfl (Sub.cons' rfl rfl (Sub.nil _))))))⟩
      · rintro n840 _ t' G844 ⟨rs596, x597, p594, c595, rfl, S843, ars596, Bo593, hsub845⟩ o846 ho841 hk842
        refine AX.sub hsub845 ?_
        unfold D_impl_ScheduleOfStarter_s0 at ho841
        refine AX.seq ?_
        refine AX.region ?_
        refine AO.p rfl (p_lss rfl rfl) ?_
        refine AO.nil ?_
        refine AX.seq ?_
        refine AX.cond rfl (fun c847 => ?_) (fun c847 => ?_)
        · have hd848 := bif_t c847 ho841
          refine AX.skip ?_
          refine AX.seq ?_
          refine AX.block ?_
          refine AX.seq ?_
          refine AX.region ?_
          refine AO.p rfl (p_move rfl) ?_
          refine AO.p rfl (p_assign rfl) ?_
          refine AO.nil ?_
          refine AX.seq ?_
          refine AX.region ?_
          refine AO.p rfl (p_move rfl) ?_
          obtain ⟨k849, hd850⟩ := chk_some hd848
          refine AO.p rfl (p_addE rfl rfl k849) ?_
          obtain ⟨xs851, h852, hd853⟩ := bnd_some hd850
          obtain ⟨hc855, l856⟩ := W_impl_free fu G844 (a0 + 1) xs851 h852
          refine AO.c rfl (o_call (vs := [.int .i64 (a0 + 1)]) rfl Try.call92 hc855) ?_
          obtain ⟨G857, i858, hii858, hHG857, S859⟩ := S843.new (AObj.row false (ints (List.replicate 14 0)))
          refine AO.c rfl (s_alloc (i := i858) (cs := ints (List.replicate 14 0)) Try.zeroValue65 rfl rfl hii858 hHG857) ?_
          obtain ⟨G861, hHG861, S862⟩ := S859.set (k := 0) (i := i858) rfl (AObj.row false (ints xs851))
          refine AO.s (s_storeAll (vs := ints xs851) Try.sizeOf65 rfl rfl ints_one (S859.get (k := 0) rfl) (ints_len l856) (ints_len len_rep) hHG861) ?_
          refine AO.nil ?_
          refine AX.seq ?_
          refine AX.region ?_
          refine AO.p rfl (p_move rfl) ?_
          refine AO.p rfl (p_move rfl) ?_
          have S863 := S862.front 0 rfl
          obtain ⟨xs864, h865, hd866⟩ := bnd_some hd853
          obtain ⟨_, G869, hc868, rfl, S870, l867⟩ := W_impl_Round_meet fu G861 i858 xs851 l856 (S862.get (k := 0) rfl) a0 x597 xs864 h865
          have S871 := St.callM (A := [[(i858, AObj.row false (ints xs851))]]) S863 S870 (by simp)
          refine AO.c rfl (o_call (vs := [.pointer (some ⟨i858, 0, none⟩), .int .i64 a0, .int .i64 x597]) rfl Try.call93 hc868) ?_
          refine AO.nil ?_
          refine AX.seq ?_
          refine AX.seq ?_
          refine AX.region ?_
          refine AO.p rfl (p_move rfl) ?_
          refine AO.p rfl (p_len_slice rfl Try.underlying22) ?_
          refine AO.p rfl (p_move rfl) ?_
          refine AO.nil ?_
          obtain ⟨r998, hl999, hd1000⟩ := bnd_some hd866
          refine AX.cutQ (fun t' H' => ∃ (xs997 : List Int), xs997 = r998 ∧ St [] H H' [[(i101, AObj.row false ([.int .i64 0, .slice none 0 0]))], [(i124, AObj.row false ([.int .i64 (a0 + 1), .slice p594 rs596.length c595]))], oseg p594 (ints rs596.flatten), [(i858, AObj.row false (ints xs997))]] ∧ xs997.length = 14 ∧ Am.Sub [(0, .int .i64 a0), (1, .slice p_a1 a1.length c_a1), (4, .pointer (some ⟨i101, 0, none⟩)), (7, .pointer (some ⟨i124, 0, none⟩)), (9, .pointer (some ⟨i858, 0, none⟩)), (23, .int .i64 a0), (24, .int .i64 x597)] t') ?_ ?_
          · refine AX.block ?_
            refine AX.loopF (fun s' t' H' => ∃ (xs956 : List Int) (x957 : Int), (xs956, x957) = s' ∧ St [] H H' [[(i101, AObj.row false ([.int .i64 0, .slice none 0 0]))], [(i124, AObj.row false ([.int .i64 (a0 + 1), .slice p594 rs596.length c595]))], oseg p594 (ints rs596.flatten), [(i858, AObj.row false (ints xs956))]] ∧ xs956.length = 14 ∧ Am.Sub [(0, .int .i64 a0), (1, .slice p_a1 a1.length c_a1), (4, .pointer (some ⟨i101, 0, none⟩)), (7, .pointer (some ⟨i124, 0, none⟩)), (8, .int .i64 x597), (9, .pointer (some ⟨i858, 0, none⟩)), (23, .int .i64 a0), (24, .int .i64 x597), (33, .slice p_a1 a1.length c_a1), (34, .int .i64 ((a1.length : Nat) : Int)), (35, .int .i64 x957)] t') hl999 ?_ ?_
            · skip
              have S1001 := S871.front 0 rfl
              have S1002 := S1001.front 3 rfl
              have S1003 := S1002.front 3 rfl
              have S1004 := S1003.front 3 rfl
              exact ⟨xs864, 0, rfl, S1004, l867, Sub.cons' rfl rfl (Sub.cons' rfl rfl (Sub.cons' rfl rfl (Sub.cons' rfl rfl (Sub.cons' rfl rfl (Sub.cons' rfl rfl (Sub.cons' rfl rfl (Sub.cons' rfl rfl (Sub.cons' rfl rfl (Sub.cons' rfl rfl (Sub.cons' rfl rfl (Sub.nil _)))))))))))⟩
            · rintro n1005 _ t' G1009 ⟨xs956, x957, rfl, S1008, lxs956, hsub1010⟩ o1011 ho1006 hk1007
              refine AX.sub hsub1010 ?_
              unfold D_impl_ScheduleOfStarter_s1 at ho1006
              refine AX.seq ?_
              refine AX.region ?_
              refine AO.p rfl (p_lss rfl rfl) ?_
              refine AO.nil ?_
              refine AX.seq ?_
              refine AX.cond rfl (fun c1012 => ?_) (fun c1012 => ?_)
              · have hd1013 := bif_t c1012 ho1006
                refine AX.skip ?_
                refine AX.seq ?_
                refine AX.block ?_
                refine AX.seq ?_
                refine AX.region ?_
                obtain ⟨k1014, hd1015⟩ := chk_some hd1013
                obtain ⟨p1016, c1017, e1018, f1019⟩ := tget t_a1 (lt_len rfl (inR_lt k1014))
                refine AO.p rfl (s_indexV (q := off p_a1 + x957.toNat) Try.underlying22 Try.sizeOf68 rfl ((S1008.view v_a1).p f1019) rfl k1014 (o1 _ _)) ?_
                refine AO.c rfl (s_load Try.isAgg68 rfl ((S1008.view v_a1).get _ _ f1019)) ?_
                refine AO.p rfl (p_assign rfl) ?_
                refine AO.nil ?_
                refine DR.startS [false, false, false, false, false, false, false, false, false, false, false, false, false, false, true] mix (by kernel_rfl) (fun hst => ?_)
                refine DR.p rfl rfl (p_move rfl) ?_
                obtain ⟨k1020, hd1021⟩ := chk_some hd1015
                refine DR.p rfl rfl (s_indexV (q := off p1016 + 0) Try.underlying68 Try.sizeOf2 rfl ((TVw.at (S1008.tview w_a1) e1018).p (ints_get (lt_len rfl (inR_lt k1020)))) rfl k1020 (o1 _ _)) ?_
                refine DR.r rfl rfl (r_load rfl Try.isAgg2) (one_read ((TVw.at (S1008.tview w_a1) e1018).get _ _ (ints_get (lt_len rfl (inR_lt k1020)))) (.of_flat0 rfl)) ?_
                refine DR.p rfl rfl (p_move rfl) ?_
                obtain ⟨k1022, hd1023⟩ := chk_some hd1021
                refine DR.p rfl rfl (p_addE rfl rfl k1022) ?_
                refine DR.p rfl rfl (p_move rfl) ?_
                obtain ⟨k1024, hd1025⟩ := chk_some hd1023
                refine DR.p rfl rfl (p_remE rfl rfl k1024) ?_
                refine DR.p rfl rfl (p_move rfl) ?_
                obtain ⟨k1026, hd1027⟩ := chk_some hd1025
                refine DR.p rfl rfl (s_indexV (q := off p1016 + 1) Try.underlying68 Try.sizeOf2 rfl ((TVw.at (S1008.tview w_a1) e1018).p (ints_get (lt_len rfl (inR_lt k1026)))) rfl k1026 (o1 _ _)) ?_
                refine DR.r rfl rfl (r_load rfl Try.isAgg2) (one_read ((TVw.at (S1008.tview w_a1) e1018).get _ _ (ints_get (lt_len rfl (inR_lt k1026)))) (.of_flat0 rfl)) ?_
                refine DR.p rfl rfl (p_move rfl) ?_
                obtain ⟨k1028, hd1029⟩ := chk_some hd1027
                refine DR.p rfl rfl (p_addE rfl rfl k1028) ?_
                refine DR.p rfl rfl (p_move rfl) ?_
                obtain ⟨k1030, hd1031⟩ := chk_some hd1029
                refine DR.p rfl rfl (p_remE rfl rfl k1030) ?_
                have S1032 := S1008.front 3 rfl
                obtain ⟨xs1033, h1034, hd1035⟩ := bnd_some hd1031
                obtain ⟨_, G1038, hc1037, rfl, S1039, l1036⟩ := W_impl_Round_meet fu G1009 i858 xs956 lxs956 (S1008.get (k := 3) rfl) ((rd (rw_ a1 x957.toNat) 0 + x597).tmod a0) ((rd (rw_ a1 x957.toNat) 1 + x597).tmod a0) xs1033 h1034
                have S1040 := St.callM (A := [[(i858, AObj.row false (ints xs956))]]) S1032 S1039 (by simp)
                refine DR.w rfl rfl (o_call (vs := [.pointer (some ⟨i858, 0, none⟩), .int .i64 ((rd (rw_ a1 x957.toNat) 0 + x597).tmod a0), .int .i64 ((rd (rw_ a1 x957.toNat) 1 + x597).tmod a0)]) rfl Try.call93 hc1037) (S1039.len) ?_
                refine DR.nil 15 [] hst (by kernel_rfl) trivial ?_
                refine AX.region ?_
                obtain ⟨k1041, hd1042⟩ := chk_some hd1035
                refine AO.p rfl (p_addE rfl rfl k1041) ?_
                refine AO.p rfl (p_move rfl) ?_
                refine AO.nil ?_
                obtain rfl := some_inj hd1042
                have S1044 := S1040.front 0 rfl
                have S1045 := S1044.front 3 rfl
                have S1046 := S1045.front 3 rfl
                have S1047 := S1046.front 3 rfl
                exact ⟨(xs1033, x957 + 1), hk1007, xs1033, (x957 + 1), rfl, S1047, l1036, Sub.cons' rfl rfl (Sub.cons' rfl rfl (Sub.cons' rfl rfl (Sub.cons' rfl rfl (Sub.cons' rfl rfl (Sub.cons' rfl rfl (Sub.cons' rfl rfl (Sub.cons' rfl rfl (Sub.cons' rfl rfl (Sub.cons' rfl rfl (Sub.cons' rfl rfl (Sub.nil _)))))))))))⟩
              · have hd1048 := bif_f c1012 ho1006
                refine AX.exit ?_
                obtain rfl := some_inj hd1048
                have S1049 := S1008.front 3 rfl
                have S1050 := S1049.front 3 rfl
                have S1051 := S1050.front 3 rfl
                have S1052 := S1051.front 3 rfl
                exact ⟨xs956, hk1007, S1052, lxs956, Sub.cons' rfl rfl (Sub.cons' rfl rfl (Sub.cons' rfl rfl (Sub.cons' rfl rfl (Sub.cons' rfl rfl (Sub.cons' rfl rfl (Sub.cons' rfl rfl (Sub.nil _)))))))⟩
          · rintro t' G1054 ⟨xs997, rfl, S1053, lxs997, hsub1055⟩
            refine AX.sub hsub1055 ?_
            refine AX.region ?_
            refine AO.p rfl (s_fieldAddr Try.underlying39 rfl Try.sizeOf37 (by decide) rfl rfl) ?_
            refine AO.c rfl (s_load Try.isAgg37 rfl (row_cell (S1053.get (k := 1) rfl) rfl)) ?_
            refine AO.c rfl (s_loadN (vs := ints xs997) Try.isAgg65 Try.sizeOf65 rfl (ints_len lxs997) (row_cells (S1053.get (k := 3) rfl))) ?_
            obtain ⟨G1056, i1057, hii1057, hHG1056, S1058⟩ := S1053.new (AObj.row false (ints [xs997].flatten))
            refine AO.c rfl (s_build1 (i := i1057) (r := xs997) (zr := List.replicate 14 0) Try.underlying37 Try.sizeOf65 Try.zeroValue65 rfl rfl (by decide) (by decide) rfl lxs997 hii1057 hHG1056) ?_
            obtain ⟨k1060, hd1061⟩ := chk_some hd1000
            obtain ⟨p1062, c1063, G1064, haG1064, S1065, Bp1062⟩ := S1058.app (k := 3) rfl Bo593 (ints [xs997].flatten) 1 (flat_len1 (all_one lxs997) rfl)
            have S1066 := S1065.cellsEq (k := 3) (us' := ints (rs596 ++ [xs997]).flatten) (intsf_app _ _) rfl
            have BS1066 : Sb p1062 ((rs596 ++ [xs997]).length) c1063 14 := (show rs596.length + 1 = (rs596 ++ [xs997]).length from len_app (a := rs596) (b := [xs997]) rfl rfl) ▸ Bp1062
            have S1067 := S1066.drop 0 rfl
            refine AO.c rfl (s_app (by_ := 112) (us := ints rs596.flatten) (vs := ints [xs997].flatten) Try.underlying37 Try.underlying37 Try.typeInfo65 Try.sizeOf65 Try.zeroValue65 rfl rfl rfl rfl rfl rfl rfl (S1058.buf (k := 3) rfl Bo593 (flat_len1 ars596 rfl)) (S1058.oview (k := 0) rfl (Sb.lit (n := 1) (by decide)) (flat_len1 (all_one lxs997) rfl)) (flat_len1 (all_one lxs997) rfl) ints_one k1060 haG1064 (show rs596.length + 1 = (rs596 ++ [xs997]).length from len_app (a := rs596) (b := [xs997]) rfl rfl)) ?_
            refine AO.p rfl (s_fieldAddr Try.underlying39 rfl Try.sizeOf37 (by decide) rfl rfl) ?_
            obtain ⟨G1068, hHG1068, S1069⟩ := S1067.set (k := 1) (i := i124) rfl (AObj.row false ([.int .i64 (a0 + 1), .slice p1062 ((rs596 ++ [xs997]).length) c1063]))
            refine AO.s (s_store Try.sizeOf37 rfl rfl rfl (S1067.get (k := 1) rfl) (Nat.le_of_ble_eq_true rfl) hHG1068) ?_
            refine AO.nil ?_
            refine AX.region ?_
            obtain ⟨k1070, hd1071⟩ := chk_some hd1061
            refine AO.p rfl (p_addE rfl rfl k1070) ?_
            refine AO.p rfl (p_move rfl) ?_
            refine AO.nil ?_
            obtain rfl := some_inj hd1071
            have S1073 := S1069.front 2 rfl
            have S1074 := S1073.front 2 rfl
            have S1075 := S1074.front 2 rfl
            have S1076 := S1075.keep 3
            exact ⟨((rs596 ++ [xs997]), x597 + 1), hk842, (rs596 ++ [xs997]), (x597 + 1), p1062, c1063, rfl, S1076, (all_app ars596 (all_one lxs997)), BS1066, Sub.cons' rfl rfl (Sub.cons' rfl rfl (Sub.cons' rfl rfl (Sub.cons' rfl rfl (Sub.cons' rfl rfl (Sub.cons' rfl rfl (Sub.nil _))))))⟩
        · have hd1077 := bif_f c847 ho841
          refine AX.exit ?_
          obtain rfl := some_inj hd1077
          have S1078 := S843.front 2 rfl
          have S1079 := S1078.front 2 rfl
          have S1080 := S1079.front 2 rfl
          exact ⟨rs596, p594, c595, hk842, S1080, ars596, Bo593, Sub.cons' rfl rfl (Sub.cons' rfl rfl (Sub.nil _))⟩
    · rintro t' G1082 ⟨rs832, p830, c831, rfl, S1081, ars832, Bo829, hsub1083⟩
      refine AX.sub hsub1083 ?_
      refine AX.seq ?_
      refine AX.region ?_
      refine AO.c rfl (s_loadN (vs := [.int .i64 (a0 + 1), .slice p830 rs832.length c831]) Try.isAgg39 Try.sizeOf39 rfl rfl (row_cells (S1081.get (k := 1) rfl))) ?_
      obtain ⟨G1084, hHG1084, S1085⟩ := S1081.set (k := 0) (i := i101) rfl (AObj.row false ([.int .i64 (a0 + 1), .slice p830 rs832.length c831]))
      refine AO.s (s_storeAll (vs := [.int .i64 (a0 + 1), .slice p830 rs832.length c831]) Try.sizeOf39 rfl rfl (ones_list rfl) (S1081.get (k := 0) rfl) rfl rfl hHG1084) ?_
      refine AO.p rfl (p_assign rfl) ?_
      refine AO.nil ?_
      refine AX.ret ?_
      obtain ⟨rfl, z1086⟩ := Prod.mk.inj (some_inj hd835)
      obtain ⟨rfl, rfl⟩ := Prod.mk.inj z1086
      have S1088 := S1085.front 2 rfl
      have S1089 := S1088.keep 1
      exact ⟨.inr rfl, _, res2 rfl (rv_cell (vs := [.int .i64 (a0 + 1), .slice p830 rs832.length c831]) rfl Try.isAgg39 Try.sizeOf39 rfl (row_cells (S1085.get (k := 0) rfl))) (rv_tmp rfl), p830, c831, rfl, S1089, Bo829, ars832⟩

end Go.Proofs.Ytpaaoafgahbokaa
