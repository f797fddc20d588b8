/-
  The program computes that, printed by a program. No condition.
-/
import Derived.Test.YtdafmafigcljkaaDMe
import Derived.Test.YtdafmafigcljkaaWMc
import Derived.Test.YtdafmafigcljkaaWM
import Derived.Test.YtdafmafigcljkaaProg
import Derived.KernelRfl
namespace Go.Proofs.Ytdafmafigcljkaa
open Go Go.RowKit Am
set_option linter.unusedVariables false
set_option linter.unusedSimpArgs false
set_option maxRecDepth 20000
set_option maxHeartbeats 4000000 in
theorem W_spec_l03Gcd (fu : Nat) (H : AHeap) (a0 : Int) (a1 : Int) (r0 : Int) (hd : D_spec_l03Gcd fu a0 a1 = some r0) : ACall Try.prog 86 [.int .i64 a0, .int .i64 a1] H (.int .i64 r0) H := by
  refine ACall.bodyP (N := 14) [(0, .int .i64 a0), (1, .int .i64 a1)] Try.func86 rfl rfl rfl rfl ?_
  unfold D_spec_l03Gcd at hd
  have S0 : St [] H H [] := St.nil H
  refine AX.seq ?_
  refine AX.region ?_
  refine AO.p rfl (p_assign rfl) ?_
  refine AO.nil ?_
  obtain ⟨r129, hl130, hd131⟩ := bnd_some hd
  refine AX.cut (fun t' H' => ∃ (x128 : Int), x128 = r129 ∧ St [] H H' [] ∧ Am.Sub [(0, .int .i64 x128)] t') ?_ ?_
  · refine AX.block ?_
    refine AX.loopF (fun s' t' H' => ∃ (x118 : Int) (x119 : Int), (x118, x119) = s' ∧ St [] H H' [] ∧ Am.Sub [(0, .int .i64 x118), (1, .int .i64 x119)] t') hl130 ?_ ?_
    · skip
      exact ⟨a0, a1, rfl, S0, Sub.cons' rfl rfl (Sub.cons' rfl rfl (Sub.nil _))⟩
    · rintro n132 _ t' G136 ⟨x118, x119, rfl, S135, hsub137⟩ o138 ho133 hk134
      refine AX.sub hsub137 ?_
      unfold D_spec_l03Gcd_s0 at ho133
      refine AX.seq ?_
      refine AX.seq ?_
      refine AX.region ?_
      refine AO.p rfl (p_move rfl) ?_
      refine AO.p rfl (p_neq rfl rfl) ?_
      refine AO.nil ?_
      refine AX.cond rfl (fun c139 => ?_) (fun c139 => ?_)
      · have hd140 := bif_t c139 ho133
        refine AX.skip ?_
        refine AX.block ?_
        refine AX.seq ?_
        refine AX.region ?_
        refine AO.p rfl (p_move rfl) ?_
        refine AO.p rfl (p_move rfl) ?_
        obtain ⟨k141, hd142⟩ := chk_some hd140
        refine AO.p rfl (p_remE rfl rfl k141) ?_
        refine AO.p rfl (p_assign rfl) ?_
        refine AO.nil ?_
        refine AX.seq ?_
        refine AX.region ?_
        refine AO.p rfl (p_move rfl) ?_
        refine AO.p rfl (p_assign rfl) ?_
        refine AO.nil ?_
        refine AX.region ?_
        refine AO.p rfl (p_move rfl) ?_
        refine AO.p rfl (p_assign rfl) ?_
        refine AO.nil ?_
        obtain rfl := some_inj hd142
        exact ⟨(x119, x118.tmod x119), hk134, x119, (x118.tmod x119), rfl, S135, Sub.cons' rfl rfl (Sub.cons' rfl rfl (Sub.nil _))⟩
      · have hd144 := bif_f c139 ho133
        refine AX.exit ?_
        obtain rfl := some_inj hd144
        exact ⟨x118, hk134, S135, Sub.cons' rfl rfl (Sub.nil _)⟩
  · rintro t' G146 ⟨x128, rfl, S145, hsub147⟩
    refine AX.sub hsub147 ?_
    refine AX.seq ?_
    refine AX.region ?_
    refine AO.p rfl (p_move rfl) ?_
    refine AO.p rfl (p_assign rfl) ?_
    refine AO.nil ?_
    refine AX.ret ?_
    obtain rfl := some_inj hd131
    exact ⟨.inr rfl, _, res1 rfl (rv_tmp rfl), rfl, (flatB_ok rfl), S145.hold⟩

set_option maxHeartbeats 4000000 in
theorem W_spec_l03Sorted (fu : Nat) (H : AHeap) (F : Sg) (p_n0 : Option Addr) (k_n0 c_n0 : Nat) (T_n0 : Tb) (n0 : List (List Int)) (l_n0 : n0.length = k_n0) (s_n0 : Sb p_n0 k_n0 c_n0 1) (t_n0 : trows T_n0 = n0) (z_n0 : TSb T_n0) (hn : (([oseg p_n0 (tcells T_n0), tseg T_n0, F] : List Sg).flatten.map (·.1)).Nodup) (ho : ∀ x ∈ ([oseg p_n0 (tcells T_n0), tseg T_n0, F] : List Sg).flatten, x.1 < H.length ∧ hget H x.1 = x.2) (r0 : List (List Int)) (hd : D_spec_l03Sorted fu k_n0 n0 = some r0) : ∃ v G', ACall Try.prog 130 [.slice p_n0 k_n0 c_n0] H v G' ∧ ∃ (p_r0 : Option Addr) (c_r0 : Nat) (T_r0 : Tb) (F' : Sg), (v = .slice p_r0 r0.length c_r0) ∧ St (([oseg p_n0 (tcells T_n0), tseg T_n0, F] : List Sg).flatten.map (·.1)) H G' [oseg p_n0 (tcells T_n0), tseg T_n0, F'] ∧ trows T_r0 = r0 ∧ PTw F' p_r0 c_r0 T_r0 ∧ Pin F' F := by
  refine ACall.bodyX (args := [.slice p_n0 k_n0 c_n0]) (N := 77) [(0, .slice p_n0 k_n0 c_n0)] (fun v G' => ∃ (p_r0 : Option Addr) (c_r0 : Nat) (T_r0 : Tb) (F' : Sg), (v = .slice p_r0 r0.length c_r0) ∧ St (([oseg p_n0 (tcells T_n0), tseg T_n0, F] : List Sg).flatten.map (·.1)) H G' [oseg p_n0 (tcells T_n0), tseg T_n0, F'] ∧ trows T_r0 = r0 ∧ PTw F' p_r0 c_r0 T_r0 ∧ Pin F' F) Try.func130 rfl rfl rfl rfl ?_
  unfold D_spec_l03Sorted at hd
  have S0 := St.initF hn ho
  generalize hM0 : (([oseg p_n0 (tcells T_n0), tseg T_n0, F] : List Sg).flatten.map (·.1)) = M0 at S0 ⊢
  refine AX.seq ?_
  refine AX.region ?_
  refine AO.p rfl (p_assign rfl) ?_
  refine AO.nil ?_
  refine AX.seq ?_
  refine AX.region ?_
  obtain ⟨G100, i101, hii101, hHG100, S102⟩ := S0.new (AObj.row false (tcells []))
  refine AO.c rfl (s_build0 (i := i101) Try.underlying43 Try.sizeOf58 hii101 hHG100) ?_
  refine AO.p rfl (p_assign rfl) ?_
  refine AO.nil ?_
  refine AX.seq ?_
  refine AX.seq ?_
  refine AX.region ?_
  refine AO.p rfl (p_assign rfl) ?_
  refine AO.nil ?_
  obtain ⟨r1337, hl1338, hd1339⟩ := bnd_some hd
  refine AX.cutS (fun t' H' => ∃ (rs1334 : List (List Int)) (F1328 : Sg) (p1332 : Option Addr) (c1333 : Nat) (T1335 : Tb), rs1334 = r1337 ∧ St M0 H H' [F1328, oseg p_n0 (tcells T_n0), tseg T_n0, oseg p1332 (tcells T1335)] ∧ Pin F1328 F ∧ trows T1335 = rs1334 ∧ PRw F1328 T1335 ∧ Sb p1332 (rs1334.length) c1333 1 ∧ Am.Sub [(3, .slice p1332 rs1334.length c1333)] t') ?_ ?_
  · refine AX.block ?_
    refine AX.loopF (fun s' t' H' => ∃ (rs924 : List (List Int)) (x927 : Int) (F918 : Sg) (p922 : Option Addr) (c923 : Nat) (T925 : Tb), (rs924, x927) = s' ∧ St M0 H H' [F918, oseg p_n0 (tcells T_n0), tseg T_n0, oseg p922 (tcells T925)] ∧ Pin F918 F ∧ trows T925 = rs924 ∧ PRw F918 T925 ∧ Sb p922 (rs924.length) c923 1 ∧ Am.Sub [(0, .slice p_n0 k_n0 c_n0), (3, .slice p922 rs924.length c923), (4, .int .i64 x927)] t') hl1338 ?_ ?_
    · skip
      have S1340 := S102.front 0 rfl
      have S1341 := S1340.front 2 rfl
      have S1342 := S1341.front 2 rfl
      have S1343 := S1342.front 3 rfl
      exact ⟨[], 0, F, (some (Addr.mk i101 0 none)), 0, [], rfl, S1343, (Pin.refl F), rfl, PRw.nil, (Sb.lit (n := 0) (by decide)), Sub.cons' rfl rfl (Sub.cons' rfl rfl (Sub.cons' rfl rfl (Sub.nil _)))⟩
    · rintro n1344 _ t' G1348 ⟨rs924, x927, F918, p922, c923, T925, rfl, S1347, hF919, tT925, hp926, Bo921, hsub1349⟩ o1350 ho1345 hk1346
      refine AX.sub hsub1349 ?_
      unfold D_spec_l03Sorted_s0 at ho1345
      refine AX.seq ?_
      refine AX.seq ?_
      refine AX.region ?_
      refine AO.p rfl (p_move rfl) ?_
      refine AO.p rfl (p_move rfl) ?_
      refine AO.p rfl (p_len_slice rfl Try.underlying43) ?_
      refine AO.p rfl (p_lss rfl rfl) ?_
      refine AO.nil ?_
      refine AX.cond rfl (fun c1351 => ?_) (fun c1351 => ?_)
      · have hd1352 := bif_t c1351 ho1345
        refine AX.skip ?_
        refine AX.seq ?_
        refine AX.block ?_
        refine AX.seq ?_
        refine DR.startS [false, false, false, false, false, false, false, false, false, false, false, false, false, false, false, false, false, false, false, false, false, false, false, false, false, false, false, false] mix (by kernel_rfl) (fun hst => ?_)
        refine DR.p rfl rfl (p_move rfl) ?_
        refine DR.p rfl rfl (p_move rfl) ?_
        obtain ⟨k1353, hd1354⟩ := chk_some hd1352
        refine DR.p rfl rfl (s_indexV (q := x927.toNat) Try.underlying43 Try.sizeOf58 rfl (s_n0.at (inR_pos k1353)) rfl k1353 (z1 _)) ?_
        obtain ⟨p1355, c1356, e1357, f1358⟩ := tget t_n0 (lt_len l_n0 (inR_lt k1353))
        refine DR.r rfl rfl (r_load rfl Try.isAgg58) (one_read (row_cell (S1347.oat (k := 1) rfl (s_n0.at (inR_pos k1353))) f1358) (TVw.at (S1347.oviewT (k := 2) rfl z_n0) e1357).inn.bel) ?_
        obtain ⟨k1359, hd1360⟩ := chk_some hd1354
        refine DR.p rfl rfl (s_indexV (q := off p1355 + 0) Try.underlying58 Try.sizeOf2 rfl ((TVw.at (S1347.oviewT (k := 2) rfl z_n0) e1357).p (ints_get (lt_len rfl (inR_lt k1359)))) rfl k1359 (o1 _ _)) ?_
        refine DR.r rfl rfl (r_load rfl Try.isAgg2) (one_read ((TVw.at (S1347.oviewT (k := 2) rfl z_n0) e1357).get _ _ (ints_get (lt_len rfl (inR_lt k1359)))) (.of_flat0 rfl)) ?_
        refine DR.p rfl rfl (p_move rfl) ?_
        refine DR.p rfl rfl (p_move rfl) ?_
        obtain ⟨k1361, hd1362⟩ := chk_some hd1360
        refine DR.p rfl rfl (s_indexV (q := x927.toNat) Try.underlying43 Try.sizeOf58 rfl (s_n0.at (inR_pos k1361)) rfl k1361 (z1 _)) ?_
        obtain ⟨p1363, c1364, e1365, f1366⟩ := tget t_n0 (lt_len l_n0 (inR_lt k1361))
        refine DR.r rfl rfl (r_load rfl Try.isAgg58) (one_read (row_cell (S1347.oat (k := 1) rfl (s_n0.at (inR_pos k1361))) f1366) (TVw.at (S1347.oviewT (k := 2) rfl z_n0) e1365).inn.bel) ?_
        obtain ⟨k1367, hd1368⟩ := chk_some hd1362
        refine DR.p rfl rfl (s_indexV (q := off p1363 + 1) Try.underlying58 Try.sizeOf2 rfl ((TVw.at (S1347.oviewT (k := 2) rfl z_n0) e1365).p (ints_get (lt_len rfl (inR_lt k1367)))) rfl k1367 (o1 _ _)) ?_
        refine DR.r rfl rfl (r_load rfl Try.isAgg2) (one_read ((TVw.at (S1347.oviewT (k := 2) rfl z_n0) e1365).get _ _ (ints_get (lt_len rfl (inR_lt k1367)))) (.of_flat0 rfl)) ?_
        refine DR.p rfl rfl (p_min rfl rfl rfl) ?_
        refine DR.p rfl rfl (p_move rfl) ?_
        refine DR.p rfl rfl (p_move rfl) ?_
        obtain ⟨k1369, hd1370⟩ := chk_some hd1368
        refine DR.p rfl rfl (s_indexV (q := x927.toNat) Try.underlying43 Try.sizeOf58 rfl (s_n0.at (inR_pos k1369)) rfl k1369 (z1 _)) ?_
        obtain ⟨p1371, c1372, e1373, f1374⟩ := tget t_n0 (lt_len l_n0 (inR_lt k1369))
        refine DR.r rfl rfl (r_load rfl Try.isAgg58) (one_read (row_cell (S1347.oat (k := 1) rfl (s_n0.at (inR_pos k1369))) f1374) (TVw.at (S1347.oviewT (k := 2) rfl z_n0) e1373).inn.bel) ?_
        obtain ⟨k1375, hd1376⟩ := chk_some hd1370
        refine DR.p rfl rfl (s_indexV (q := off p1371 + 0) Try.underlying58 Try.sizeOf2 rfl ((TVw.at (S1347.oviewT (k := 2) rfl z_n0) e1373).p (ints_get (lt_len rfl (inR_lt k1375)))) rfl k1375 (o1 _ _)) ?_
        refine DR.r rfl rfl (r_load rfl Try.isAgg2) (one_read ((TVw.at (S1347.oviewT (k := 2) rfl z_n0) e1373).get _ _ (ints_get (lt_len rfl (inR_lt k1375)))) (.of_flat0 rfl)) ?_
        refine DR.p rfl rfl (p_move rfl) ?_
        refine DR.p rfl rfl (p_move rfl) ?_
        obtain ⟨k1377, hd1378⟩ := chk_some hd1376
        refine DR.p rfl rfl (s_indexV (q := x927.toNat) Try.underlying43 Try.sizeOf58 rfl (s_n0.at (inR_pos k1377)) rfl k1377 (z1 _)) ?_
        obtain ⟨p1379, c1380, e1381, f1382⟩ := tget t_n0 (lt_len l_n0 (inR_lt k1377))
        refine DR.r rfl rfl (r_load rfl Try.isAgg58) (one_read (row_cell (S1347.oat (k := 1) rfl (s_n0.at (inR_pos k1377))) f1382) (TVw.at (S1347.oviewT (k := 2) rfl z_n0) e1381).inn.bel) ?_
        obtain ⟨k1383, hd1384⟩ := chk_some hd1378
        refine DR.p rfl rfl (s_indexV (q := off p1379 + 1) Try.underlying58 Try.sizeOf2 rfl ((TVw.at (S1347.oviewT (k := 2) rfl z_n0) e1381).p (ints_get (lt_len rfl (inR_lt k1383)))) rfl k1383 (o1 _ _)) ?_
        refine DR.r rfl rfl (r_load rfl Try.isAgg2) (one_read ((TVw.at (S1347.oviewT (k := 2) rfl z_n0) e1381).get _ _ (ints_get (lt_len rfl (inR_lt k1383)))) (.of_flat0 rfl)) ?_
        refine DR.p rfl rfl (p_max rfl rfl rfl) ?_
        obtain ⟨G1385, i1386, hii1386, hHG1385, S1387⟩ := S1347.new (AObj.row false (ints [(if rd (rw_ n0 x927.toNat) 1 < rd (rw_ n0 x927.toNat) 0 then rd (rw_ n0 x927.toNat) 1 else rd (rw_ n0 x927.toNat) 0), (if rd (rw_ n0 x927.toNat) 1 > rd (rw_ n0 x927.toNat) 0 then rd (rw_ n0 x927.toNat) 1 else rd (rw_ n0 x927.toNat) 0)]))
        refine DR.a rfl rfl hii1386 hHG1385 (a_buildInts (vs := [(0, .int .i64 (if rd (rw_ n0 x927.toNat) 1 < rd (rw_ n0 x927.toNat) 0 then rd (rw_ n0 x927.toNat) 1 else rd (rw_ n0 x927.toNat) 0)), (1, .int .i64 (if rd (rw_ n0 x927.toNat) 1 > rd (rw_ n0 x927.toNat) 0 then rd (rw_ n0 x927.toNat) 1 else rd (rw_ n0 x927.toNat) 0))]) (xs := [(if rd (rw_ n0 x927.toNat) 1 < rd (rw_ n0 x927.toNat) 0 then rd (rw_ n0 x927.toNat) 1 else rd (rw_ n0 x927.toNat) 0), (if rd (rw_ n0 x927.toNat) 1 > rd (rw_ n0 x927.toNat) 0 then rd (rw_ n0 x927.toNat) 1 else rd (rw_ n0 x927.toNat) 0)]) Try.underlying58 Try.sizeOf2 Try.zeroValue2 rfl rfl (by decide) rfl rfl) ?_
        refine DR.p rfl rfl (p_assign rfl) ?_
        refine DR.nil 28 [] hst (by kernel_rfl) trivial ?_
        refine AX.seq ?_
        refine AX.region ?_
        refine AO.p rfl (p_move rfl) ?_
        refine AO.p rfl (p_len_slice rfl Try.underlying43) ?_
        refine AO.p rfl (p_assign rfl) ?_
        refine AO.nil ?_
        refine AX.seq ?_
        refine AX.region ?_
        refine AO.p rfl (p_move rfl) ?_
        refine AO.p rfl (p_move rfl) ?_
        obtain ⟨G1389, i1390, hii1390, hHG1389, S1391⟩ := S1387.new (AObj.row false (tcells ([((some (Addr.mk i1386 0 none)), 2, [(if rd (rw_ n0 x927.toNat) 1 < rd (rw_ n0 x927.toNat) 0 then rd (rw_ n0 x927.toNat) 1 else rd (rw_ n0 x927.toNat) 0), (if rd (rw_ n0 x927.toNat) 1 > rd (rw_ n0 x927.toNat) 0 then rd (rw_ n0 x927.toNat) 1 else rd (rw_ n0 x927.toNat) 0)])])))
        have S1393 := (S1391.front 1 rfl).tone (some (Addr.mk i1386 0 none)) 2 [(if rd (rw_ n0 x927.toNat) 1 < rd (rw_ n0 x927.toNat) 0 then rd (rw_ n0 x927.toNat) 1 else rd (rw_ n0 x927.toNat) 0), (if rd (rw_ n0 x927.toNat) 1 > rd (rw_ n0 x927.toNat) 0 then rd (rw_ n0 x927.toNat) 1 else rd (rw_ n0 x927.toNat) 0)] rfl
        refine AO.c rfl (s_buildT1 (i := i1390) (X := [((some (Addr.mk i1386 0 none)), 2, [(if rd (rw_ n0 x927.toNat) 1 < rd (rw_ n0 x927.toNat) 0 then rd (rw_ n0 x927.toNat) 1 else rd (rw_ n0 x927.toNat) 0), (if rd (rw_ n0 x927.toNat) 1 > rd (rw_ n0 x927.toNat) 0 then rd (rw_ n0 x927.toNat) 1 else rd (rw_ n0 x927.toNat) 0)])]) (n := 2) rfl Try.underlying43 Try.sizeOf58 Try.zeroValue58 rfl rfl hii1390 hHG1389) ?_
        obtain ⟨k1394, hd1395⟩ := chk_some hd1384
        obtain ⟨p1396, c1397, G1398, haG1398, S1399, Bp1396⟩ := S1393.app (k := 5) rfl Bo921 (tcells ([((some (Addr.mk i1386 0 none)), 2, [(if rd (rw_ n0 x927.toNat) 1 < rd (rw_ n0 x927.toNat) 0 then rd (rw_ n0 x927.toNat) 1 else rd (rw_ n0 x927.toNat) 0), (if rd (rw_ n0 x927.toNat) 1 > rd (rw_ n0 x927.toNat) 0 then rd (rw_ n0 x927.toNat) 1 else rd (rw_ n0 x927.toNat) 0)])])) 1 (tc_len1 rfl rfl)
        have S1400 := S1399.cellsEq (k := 5) (us' := tcells (T925 ++ [((some (Addr.mk i1386 0 none)), 2, [(if rd (rw_ n0 x927.toNat) 1 < rd (rw_ n0 x927.toNat) 0 then rd (rw_ n0 x927.toNat) 1 else rd (rw_ n0 x927.toNat) 0), (if rd (rw_ n0 x927.toNat) 1 > rd (rw_ n0 x927.toNat) 0 then rd (rw_ n0 x927.toNat) 1 else rd (rw_ n0 x927.toNat) 0)])])) (tcells_app _ _).symm rfl
        have BS1400 : Sb p1396 ((rs924 ++ [[(if rd (rw_ n0 x927.toNat) 1 < rd (rw_ n0 x927.toNat) 0 then rd (rw_ n0 x927.toNat) 1 else rd (rw_ n0 x927.toNat) 0), (if rd (rw_ n0 x927.toNat) 1 > rd (rw_ n0 x927.toNat) 0 then rd (rw_ n0 x927.toNat) 1 else rd (rw_ n0 x927.toNat) 0)]]).length) c1397 1 := (show rs924.length + 1 = (rs924 ++ [[(if rd (rw_ n0 x927.toNat) 1 < rd (rw_ n0 x927.toNat) 0 then rd (rw_ n0 x927.toNat) 1 else rd (rw_ n0 x927.toNat) 0), (if rd (rw_ n0 x927.toNat) 1 > rd (rw_ n0 x927.toNat) 0 then rd (rw_ n0 x927.toNat) 1 else rd (rw_ n0 x927.toNat) 0)]]).length from len_app (a := rs924) (b := [[(if rd (rw_ n0 x927.toNat) 1 < rd (rw_ n0 x927.toNat) 0 then rd (rw_ n0 x927.toNat) 1 else rd (rw_ n0 x927.toNat) 0), (if rd (rw_ n0 x927.toNat) 1 > rd (rw_ n0 x927.toNat) 0 then rd (rw_ n0 x927.toNat) 1 else rd (rw_ n0 x927.toNat) 0)]]) rfl rfl) ▸ Bp1396
        have S1401 := S1400.front 2 rfl
        have S1402 := S1401.front 1 rfl
        have S1403 : St M0 H G1398 [tseg ([((some (Addr.mk i1386 0 none)), 2, [(if rd (rw_ n0 x927.toNat) 1 < rd (rw_ n0 x927.toNat) 0 then rd (rw_ n0 x927.toNat) 1 else rd (rw_ n0 x927.toNat) 0), (if rd (rw_ n0 x927.toNat) 1 > rd (rw_ n0 x927.toNat) 0 then rd (rw_ n0 x927.toNat) 1 else rd (rw_ n0 x927.toNat) 0)])]), F918, [(i1390, AObj.row false (tcells ([((some (Addr.mk i1386 0 none)), 2, [(if rd (rw_ n0 x927.toNat) 1 < rd (rw_ n0 x927.toNat) 0 then rd (rw_ n0 x927.toNat) 1 else rd (rw_ n0 x927.toNat) 0), (if rd (rw_ n0 x927.toNat) 1 > rd (rw_ n0 x927.toNat) 0 then rd (rw_ n0 x927.toNat) 1 else rd (rw_ n0 x927.toNat) 0)])])))], oseg p_n0 (tcells T_n0), tseg T_n0, oseg p1396 (tcells (T925 ++ [((some (Addr.mk i1386 0 none)), 2, [(if rd (rw_ n0 x927.toNat) 1 < rd (rw_ n0 x927.toNat) 0 then rd (rw_ n0 x927.toNat) 1 else rd (rw_ n0 x927.toNat) 0), (if rd (rw_ n0 x927.toNat) 1 > rd (rw_ n0 x927.toNat) 0 then rd (rw_ n0 x927.toNat) 1 else rd (rw_ n0 x927.toNat) 0)])]))] := S1402
        obtain ⟨F1404, hF1405, hp1406, S1407⟩ := S1403.poolRowsW (T := T925) hp926 (TSb.one (sb_len rfl (Sb.lit (n := 2) (by decide))))
        have S1411 := S1407.drop 1 rfl
        refine AO.c rfl (s_app (by_ := 24) (us := tcells T925) (vs := tcells ([((some (Addr.mk i1386 0 none)), 2, [(if rd (rw_ n0 x927.toNat) 1 < rd (rw_ n0 x927.toNat) 0 then rd (rw_ n0 x927.toNat) 1 else rd (rw_ n0 x927.toNat) 0), (if rd (rw_ n0 x927.toNat) 1 > rd (rw_ n0 x927.toNat) 0 then rd (rw_ n0 x927.toNat) 1 else rd (rw_ n0 x927.toNat) 0)])])) Try.underlying43 Try.underlying43 Try.typeInfo58 Try.sizeOf58 Try.zeroValue58 rfl rfl rfl rfl rfl rfl rfl (S1393.buf (k := 5) rfl Bo921 (tc_len1 tT925 rfl)) (S1393.oview (k := 1) rfl (Sb.lit (n := 1) (by decide)) (tc_len1 rfl rfl)) (tc_len1 rfl rfl) tcells_one k1394 haG1398 (show rs924.length + 1 = (rs924 ++ [[(if rd (rw_ n0 x927.toNat) 1 < rd (rw_ n0 x927.toNat) 0 then rd (rw_ n0 x927.toNat) 1 else rd (rw_ n0 x927.toNat) 0), (if rd (rw_ n0 x927.toNat) 1 > rd (rw_ n0 x927.toNat) 0 then rd (rw_ n0 x927.toNat) 1 else rd (rw_ n0 x927.toNat) 0)]]).length from len_app (a := rs924) (b := [[(if rd (rw_ n0 x927.toNat) 1 < rd (rw_ n0 x927.toNat) 0 then rd (rw_ n0 x927.toNat) 1 else rd (rw_ n0 x927.toNat) 0), (if rd (rw_ n0 x927.toNat) 1 > rd (rw_ n0 x927.toNat) 0 then rd (rw_ n0 x927.toNat) 1 else rd (rw_ n0 x927.toNat) 0)]]) rfl rfl)) ?_
        refine AO.p rfl (p_assign rfl) ?_
        refine AO.nil ?_
        obtain ⟨r1649, hl1650, hd1651⟩ := bnd_some hd1395
        refine AX.cut (fun t' H' => ∃ (rs1643 : List (List Int)) (x1648 : Int) (T1644 : Tb), (rs1643, x1648) = r1649 ∧ St M0 H H' [F1404, oseg p_n0 (tcells T_n0), tseg T_n0, oseg p1396 (tcells T1644)] ∧ Pin F1404 F ∧ rs1643.length = (rs924 ++ [[(if rd (rw_ n0 x927.toNat) 1 < rd (rw_ n0 x927.toNat) 0 then rd (rw_ n0 x927.toNat) 1 else rd (rw_ n0 x927.toNat) 0), (if rd (rw_ n0 x927.toNat) 1 > rd (rw_ n0 x927.toNat) 0 then rd (rw_ n0 x927.toNat) 1 else rd (rw_ n0 x927.toNat) 0)]]).length ∧ trows T1644 = rs1643 ∧ PRw F1404 T1644 ∧ PI F1404 (some (Addr.mk i1386 0 none)) 2 [(if rd (rw_ n0 x927.toNat) 1 < rd (rw_ n0 x927.toNat) 0 then rd (rw_ n0 x927.toNat) 1 else rd (rw_ n0 x927.toNat) 0), (if rd (rw_ n0 x927.toNat) 1 > rd (rw_ n0 x927.toNat) 0 then rd (rw_ n0 x927.toNat) 1 else rd (rw_ n0 x927.toNat) 0)] ∧ Am.Sub [(0, .slice p_n0 k_n0 c_n0), (3, .slice p1396 ((rs924 ++ [[(if rd (rw_ n0 x927.toNat) 1 < rd (rw_ n0 x927.toNat) 0 then rd (rw_ n0 x927.toNat) 1 else rd (rw_ n0 x927.toNat) 0), (if rd (rw_ n0 x927.toNat) 1 > rd (rw_ n0 x927.toNat) 0 then rd (rw_ n0 x927.toNat) 1 else rd (rw_ n0 x927.toNat) 0)]]).length) c1397), (4, .int .i64 x927), (5, .slice (some (Addr.mk i1386 0 none)) 2 2), (6, .int .i64 x1648)] t') ?_ ?_
        · refine AX.block ?_
          refine AX.loopF (fun s' t' H' => ∃ (rs1566 : List (List Int)) (x1571 : Int) (T1567 : Tb), (rs1566, x1571) = s' ∧ St M0 H H' [F1404, oseg p_n0 (tcells T_n0), tseg T_n0, oseg p1396 (tcells T1567)] ∧ Pin F1404 F ∧ rs1566.length = (rs924 ++ [[(if rd (rw_ n0 x927.toNat) 1 < rd (rw_ n0 x927.toNat) 0 then rd (rw_ n0 x927.toNat) 1 else rd (rw_ n0 x927.toNat) 0), (if rd (rw_ n0 x927.toNat) 1 > rd (rw_ n0 x927.toNat) 0 then rd (rw_ n0 x927.toNat) 1 else rd (rw_ n0 x927.toNat) 0)]]).length ∧ trows T1567 = rs1566 ∧ PRw F1404 T1567 ∧ PI F1404 (some (Addr.mk i1386 0 none)) 2 [(if rd (rw_ n0 x927.toNat) 1 < rd (rw_ n0 x927.toNat) 0 then rd (rw_ n0 x927.toNat) 1 else rd (rw_ n0 x927.toNat) 0), (if rd (rw_ n0 x927.toNat) 1 > rd (rw_ n0 x927.toNat) 0 then rd (rw_ n0 x927.toNat) 1 else rd (rw_ n0 x927.toNat) 0)] ∧ Am.Sub [(0, .slice p_n0 k_n0 c_n0), (3, .slice p1396 ((rs924 ++ [[(if rd (rw_ n0 x927.toNat) 1 < rd (rw_ n0 x927.toNat) 0 then rd (rw_ n0 x927.toNat) 1 else rd (rw_ n0 x927.toNat) 0), (if rd (rw_ n0 x927.toNat) 1 > rd (rw_ n0 x927.toNat) 0 then rd (rw_ n0 x927.toNat) 1 else rd (rw_ n0 x927.toNat) 0)]]).length) c1397), (4, .int .i64 x927), (5, .slice (some (Addr.mk i1386 0 none)) 2 2), (6, .int .i64 x1571)] t') hl1650 ?_ ?_
          · skip
            have S1652 := S1411.front 3 rfl
            have S1653 := S1652.front 3 rfl
            have S1654 := S1653.front 3 rfl
            have S1655 := S1654.front 3 rfl
            exact ⟨(rs924 ++ [[(if rd (rw_ n0 x927.toNat) 1 < rd (rw_ n0 x927.toNat) 0 then rd (rw_ n0 x927.toNat) 1 else rd (rw_ n0 x927.toNat) 0), (if rd (rw_ n0 x927.toNat) 1 > rd (rw_ n0 x927.toNat) 0 then rd (rw_ n0 x927.toNat) 1 else rd (rw_ n0 x927.toNat) 0)]]), ((rs924.length : Nat) : Int), (T925 ++ [((some (Addr.mk i1386 0 none)), 2, [(if rd (rw_ n0 x927.toNat) 1 < rd (rw_ n0 x927.toNat) 0 then rd (rw_ n0 x927.toNat) 1 else rd (rw_ n0 x927.toNat) 0), (if rd (rw_ n0 x927.toNat) 1 > rd (rw_ n0 x927.toNat) 0 then rd (rw_ n0 x927.toNat) 1 else rd (rw_ n0 x927.toNat) 0)])]), rfl, S1655, (hF919.mono hF1405), rfl, (trows_apps tT925 rfl), hp1406, (PRw.at (j := 0) (PRw.right hp1406) rfl), Sub.cons' rfl rfl (Sub.cons' rfl rfl (Sub.cons' rfl rfl (Sub.cons' rfl rfl (Sub.cons' rfl rfl (Sub.nil _)))))⟩
          · rintro n1656 _ t' G1660 ⟨rs1566, x1571, T1567, rfl, S1659, hF1563, lrs1566, tT1567, hp1568, hv1570, hsub1661⟩ o1662 ho1657 hk1658
            refine AX.sub hsub1661 ?_
            unfold D_spec_l03Sorted_s1 at ho1657
            refine AX.seq ?_
            obtain ⟨r1683, hb1684, hd1685⟩ := bnd_some ho1657
            refine AX.cut (fun t' H' => ∃ (b1682 : Bool), b1682 = r1683 ∧ St M0 H H' [F1404, oseg p_n0 (tcells T_n0), tseg T_n0, oseg p1396 (tcells T1567)] ∧ Pin F1404 F ∧ PRw F1404 T1567 ∧ PI F1404 (some (Addr.mk i1386 0 none)) 2 [(if rd (rw_ n0 x927.toNat) 1 < rd (rw_ n0 x927.toNat) 0 then rd (rw_ n0 x927.toNat) 1 else rd (rw_ n0 x927.toNat) 0), (if rd (rw_ n0 x927.toNat) 1 > rd (rw_ n0 x927.toNat) 0 then rd (rw_ n0 x927.toNat) 1 else rd (rw_ n0 x927.toNat) 0)] ∧ Am.Sub [(0, .slice p_n0 k_n0 c_n0), (3, .slice p1396 ((rs924 ++ [[(if rd (rw_ n0 x927.toNat) 1 < rd (rw_ n0 x927.toNat) 0 then rd (rw_ n0 x927.toNat) 1 else rd (rw_ n0 x927.toNat) 0), (if rd (rw_ n0 x927.toNat) 1 > rd (rw_ n0 x927.toNat) 0 then rd (rw_ n0 x927.toNat) 1 else rd (rw_ n0 x927.toNat) 0)]]).length) c1397), (4, .int .i64 x927), (5, .slice (some (Addr.mk i1386 0 none)) 2 2), (6, .int .i64 x1571), (61, .bool b1682)] t') ?_ ?_
            · skip
              refine DR.startS [false, false, false, false, false, false, false, false, false, false, false, false, false, false, false] mix (by kernel_rfl) (fun hst => ?_)
              refine DR.p rfl rfl (p_move rfl) ?_
              refine DR.p rfl rfl (p_gtr rfl rfl) ?_
              refine DR.pb rfl rfl (p_move rfl) (fun c1686 => ?_) (fun c1686 => ?_)
              · have hd1687 := bif_t c1686 hb1684
                refine DR.gp rfl rfl rfl rfl (p_move rfl) ?_
                refine DR.gp rfl rfl rfl rfl (p_move rfl) ?_
                obtain ⟨k1688, hd1689⟩ := chk_some hd1687
                refine DR.gp rfl rfl rfl rfl (p_subE rfl rfl k1688) ?_
                obtain ⟨k1690, hd1691⟩ := chk_some hd1689
                refine DR.gp rfl rfl rfl rfl (s_indexV (q := (x1571 - 1).toNat) Try.underlying43 Try.sizeOf58 rfl (BS1400.at (inR_pos k1690)) rfl k1690 (z1 _)) ?_
                obtain ⟨p1692, c1693, e1694, f1695⟩ := tget tT1567 (lt_len lrs1566 (inR_lt k1690))
                refine DR.gr rfl rfl rfl rfl (r_load rfl Try.isAgg58) (one_read (row_cell (S1659.oat (k := 3) rfl (BS1400.at (inR_pos k1690))) f1695) (TVw.at (S1659.prwview (k := 0) rfl hp1568) e1694).inn.bel) ?_
                obtain ⟨k1696, hd1697⟩ := chk_some hd1691
                refine DR.gp rfl rfl rfl rfl (s_indexV (q := off p1692 + 0) Try.underlying58 Try.sizeOf2 rfl ((TVw.at (S1659.prwview (k := 0) rfl hp1568) e1694).p (ints_get (lt_len rfl (inR_lt k1696)))) rfl k1696 (o1 _ _)) ?_
                refine DR.gr rfl rfl rfl rfl (r_load rfl Try.isAgg2) (one_read ((TVw.at (S1659.prwview (k := 0) rfl hp1568) e1694).get _ _ (ints_get (lt_len rfl (inR_lt k1696)))) (.of_flat0 rfl)) ?_
                refine DR.gp rfl rfl rfl rfl (p_move rfl) ?_
                refine DR.gp rfl rfl rfl rfl (s_indexV (q := off (some (Addr.mk i1386 0 none)) + 0) Try.underlying58 Try.sizeOf2 rfl ((S1659.piview (k := 0) rfl hv1570).p (ints_get (lt_len rfl (inR_lt (show inR 0 2 by decide))))) rfl (show inR 0 2 by decide) (o1 _ _)) ?_
                refine DR.gr rfl rfl rfl rfl (r_load rfl Try.isAgg2) (one_read ((S1659.piview (k := 0) rfl hv1570).get _ _ (ints_get (lt_len rfl (inR_lt (show inR 0 2 by decide))))) (.of_flat0 rfl)) ?_
                refine DR.gp rfl rfl rfl rfl (p_gtr rfl rfl) ?_
                refine DR.p rfl rfl (p_pickT rfl rfl) ?_
                refine DR.nil 15 [] hst (by kernel_rfl) trivial ?_
                have S1698 := S1659.front 3 rfl
                have S1699 := S1698.front 3 rfl
                have S1700 := S1699.front 3 rfl
                have S1701 := S1700.front 3 rfl
                exact ⟨(decide (rd [(if rd (rw_ n0 x927.toNat) 1 < rd (rw_ n0 x927.toNat) 0 then rd (rw_ n0 x927.toNat) 1 else rd (rw_ n0 x927.toNat) 0), (if rd (rw_ n0 x927.toNat) 1 > rd (rw_ n0 x927.toNat) 0 then rd (rw_ n0 x927.toNat) 1 else rd (rw_ n0 x927.toNat) 0)] 0 < rd (rw_ rs1566 ((x1571 - 1).toNat)) 0)), (some_inj hd1697), S1701, hF1563, hp1568, hv1570, Sub.cons' rfl rfl (Sub.cons' rfl rfl (Sub.cons' rfl rfl (Sub.cons' rfl rfl (Sub.cons' rfl rfl (Sub.cons' rfl rfl (Sub.nil _))))))⟩
              · have hd1702 := bif_f c1686 hb1684
                refine DR.gn rfl rfl rfl rfl ?_
                refine DR.gn rfl rfl rfl rfl ?_
                refine DR.gn rfl rfl rfl rfl ?_
                refine DR.gn rfl rfl rfl rfl ?_
                refine DR.gn rfl rfl rfl rfl ?_
                refine DR.gn rfl rfl rfl rfl ?_
                refine DR.gn rfl rfl rfl rfl ?_
                refine DR.gn rfl rfl rfl rfl ?_
                refine DR.gn rfl rfl rfl rfl ?_
                refine DR.gn rfl rfl rfl rfl ?_
                refine DR.gn rfl rfl rfl rfl ?_
                refine DR.p rfl rfl (p_pickF rfl rfl) ?_
                refine DR.nil 15 [] hst (by kernel_rfl) trivial ?_
                have S1703 := S1659.front 3 rfl
                have S1704 := S1703.front 3 rfl
                have S1705 := S1704.front 3 rfl
                have S1706 := S1705.front 3 rfl
                exact ⟨false, (some_inj hd1702), S1706, hF1563, hp1568, hv1570, Sub.cons' rfl rfl (Sub.cons' rfl rfl (Sub.cons' rfl rfl (Sub.cons' rfl rfl (Sub.cons' rfl rfl (Sub.cons' rfl rfl (Sub.nil _))))))⟩
            · rintro t' G1708 ⟨b1682, rfl, S1707, hF1676, hp1679, hv1681, hsub1709⟩
              refine AX.sub hsub1709 ?_
              refine AX.cond rfl (fun c1710 => ?_) (fun c1710 => ?_)
              · have hd1711 := bif_t c1710 hd1685
                refine AX.skip ?_
                refine AX.block ?_
                refine AX.seq ?_
                refine AX.region ?_
                refine AO.p rfl (p_move rfl) ?_
                refine AO.p rfl (p_move rfl) ?_
                refine AO.p rfl (p_move rfl) ?_
                refine AO.p rfl (p_move rfl) ?_
                obtain ⟨k1712, hd1713⟩ := chk_some hd1711
                refine AO.p rfl (p_subE rfl rfl k1712) ?_
                obtain ⟨k1714, hd1715⟩ := chk_some hd1713
                refine AO.p rfl (s_indexV (q := (x1571 - 1).toNat) Try.underlying43 Try.sizeOf58 rfl (BS1400.at (inR_pos k1714)) rfl k1714 (z1 _)) ?_
                obtain ⟨p1716, c1717, e1718, f1719⟩ := tget tT1567 (lt_len lrs1566 (inR_lt k1714))
                refine AO.c rfl (s_load Try.isAgg58 rfl (row_cell (S1707.oat (k := 3) rfl (BS1400.at (inR_pos k1714))) f1719)) ?_
                obtain ⟨k1720, hd1721⟩ := chk_some hd1715
                refine AO.p rfl (s_indexV (q := x1571.toNat) Try.underlying43 Try.sizeOf58 rfl (BS1400.at (inR_pos k1720)) rfl k1720 (z1 _)) ?_
                obtain ⟨G1722, hHG1722, S1723⟩ := S1707.oset (k := 3) (p := p1396) rfl (BS1400.at (inR_pos k1720)) (tcells (T1567.set x1571.toNat (p1716, c1717, (rw_ rs1566 ((x1571 - 1).toNat)))))
                have S1724 : St M0 H G1722 [F1404, oseg p_n0 (tcells T_n0), tseg T_n0, oseg p1396 (tcells (T1567.set x1571.toNat (p1716, c1717, (rw_ rs1566 ((x1571 - 1).toNat)))))] := S1723
                refine AO.s (s_store Try.sizeOf58 rfl rfl rfl (S1707.oat (k := 3) rfl (BS1400.at (inR_pos k1720))) (tc_lt tT1567 lrs1566 (inR_lt k1720)) ((congrArg (fun l => List.set _ _ (AObj.row false l)) (tcells_put _ _ _ _ _)).trans hHG1722)) ?_
                refine AO.nil ?_
                refine AX.region ?_
                refine AO.p rfl (p_move rfl) ?_
                obtain ⟨k1725, hd1726⟩ := chk_some hd1721
                refine AO.p rfl (p_subE rfl rfl k1725) ?_
                refine AO.p rfl (p_assign rfl) ?_
                refine AO.nil ?_
                obtain rfl := some_inj hd1726
                have S1728 := S1724.front 3 rfl
                have S1729 := S1728.front 3 rfl
                have S1730 := S1729.front 3 rfl
                have S1731 := S1730.front 3 rfl
                exact ⟨((rs1566.set x1571.toNat (rw_ rs1566 ((x1571 - 1).toNat))), x1571 - 1), hk1658, (rs1566.set x1571.toNat (rw_ rs1566 ((x1571 - 1).toNat))), (x1571 - 1), (T1567.set x1571.toNat (p1716, c1717, (rw_ rs1566 ((x1571 - 1).toNat)))), rfl, S1731, hF1676, (len_set lrs1566), (trows_set' tT1567), (hp1679.set (hp1679.at e1718)), hv1681, Sub.cons' rfl rfl (Sub.cons' rfl rfl (Sub.cons' rfl rfl (Sub.cons' rfl rfl (Sub.cons' rfl rfl (Sub.nil _)))))⟩
              · have hd1732 := bif_f c1710 hd1685
                refine AX.exit ?_
                obtain rfl := some_inj hd1732
                have S1733 := S1707.front 3 rfl
                have S1734 := S1733.front 3 rfl
                have S1735 := S1734.front 3 rfl
                have S1736 := S1735.front 3 rfl
                exact ⟨rs1566, x1571, T1567, hk1658, S1736, hF1676, lrs1566, tT1567, hp1679, hv1681, Sub.cons' rfl rfl (Sub.cons' rfl rfl (Sub.cons' rfl rfl (Sub.cons' rfl rfl (Sub.cons' rfl rfl (Sub.nil _)))))⟩
        · rintro t' G1738 ⟨rs1643, x1648, T1644, rfl, S1737, hF1640, lrs1643, tT1644, hp1645, hv1647, hsub1739⟩
          refine AX.sub hsub1739 ?_
          refine AX.region ?_
          refine AO.p rfl (p_move rfl) ?_
          refine AO.p rfl (p_move rfl) ?_
          refine AO.p rfl (p_move rfl) ?_
          obtain ⟨k1740, hd1741⟩ := chk_some hd1651
          refine AO.p rfl (s_indexV (q := x1648.toNat) Try.underlying43 Try.sizeOf58 rfl (BS1400.at (inR_pos k1740)) rfl k1740 (z1 _)) ?_
          obtain ⟨G1742, hHG1742, S1743⟩ := S1737.oset (k := 3) (p := p1396) rfl (BS1400.at (inR_pos k1740)) (tcells (T1644.set x1648.toNat ((some (Addr.mk i1386 0 none)), 2, [(if rd (rw_ n0 x927.toNat) 1 < rd (rw_ n0 x927.toNat) 0 then rd (rw_ n0 x927.toNat) 1 else rd (rw_ n0 x927.toNat) 0), (if rd (rw_ n0 x927.toNat) 1 > rd (rw_ n0 x927.toNat) 0 then rd (rw_ n0 x927.toNat) 1 else rd (rw_ n0 x927.toNat) 0)])))
          have S1744 : St M0 H G1742 [F1404, oseg p_n0 (tcells T_n0), tseg T_n0, oseg p1396 (tcells (T1644.set x1648.toNat ((some (Addr.mk i1386 0 none)), 2, [(if rd (rw_ n0 x927.toNat) 1 < rd (rw_ n0 x927.toNat) 0 then rd (rw_ n0 x927.toNat) 1 else rd (rw_ n0 x927.toNat) 0), (if rd (rw_ n0 x927.toNat) 1 > rd (rw_ n0 x927.toNat) 0 then rd (rw_ n0 x927.toNat) 1 else rd (rw_ n0 x927.toNat) 0)])))] := S1743
          refine AO.s (s_store Try.sizeOf58 rfl rfl rfl (S1737.oat (k := 3) rfl (BS1400.at (inR_pos k1740))) (tc_lt tT1644 lrs1643 (inR_lt k1740)) ((congrArg (fun l => List.set _ _ (AObj.row false l)) (tcells_put _ _ _ _ _)).trans hHG1742)) ?_
          refine AO.nil ?_
          refine AX.region ?_
          refine AO.p rfl (p_move rfl) ?_
          obtain ⟨k1745, hd1746⟩ := chk_some hd1741
          refine AO.p rfl (p_addE rfl rfl k1745) ?_
          refine AO.p rfl (p_assign rfl) ?_
          refine AO.nil ?_
          obtain rfl := some_inj hd1746
          have S1748 := S1744.front 3 rfl
          have S1749 := S1748.front 3 rfl
          have S1750 := S1749.front 3 rfl
          have S1751 := S1750.front 3 rfl
          exact ⟨((rs1643.set x1648.toNat [(if rd (rw_ n0 x927.toNat) 1 < rd (rw_ n0 x927.toNat) 0 then rd (rw_ n0 x927.toNat) 1 else rd (rw_ n0 x927.toNat) 0), (if rd (rw_ n0 x927.toNat) 1 > rd (rw_ n0 x927.toNat) 0 then rd (rw_ n0 x927.toNat) 1 else rd (rw_ n0 x927.toNat) 0)]), x927 + 1), hk1346, (rs1643.set x1648.toNat [(if rd (rw_ n0 x927.toNat) 1 < rd (rw_ n0 x927.toNat) 0 then rd (rw_ n0 x927.toNat) 1 else rd (rw_ n0 x927.toNat) 0), (if rd (rw_ n0 x927.toNat) 1 > rd (rw_ n0 x927.toNat) 0 then rd (rw_ n0 x927.toNat) 1 else rd (rw_ n0 x927.toNat) 0)]), (x927 + 1), F1404, p1396, c1397, (T1644.set x1648.toNat ((some (Addr.mk i1386 0 none)), 2, [(if rd (rw_ n0 x927.toNat) 1 < rd (rw_ n0 x927.toNat) 0 then rd (rw_ n0 x927.toNat) 1 else rd (rw_ n0 x927.toNat) 0), (if rd (rw_ n0 x927.toNat) 1 > rd (rw_ n0 x927.toNat) 0 then rd (rw_ n0 x927.toNat) 1 else rd (rw_ n0 x927.toNat) 0)])), rfl, S1751, hF1640, (trows_set' tT1644), (hp1645.set hv1647), (Eq.symm (len_set lrs1643) ▸ BS1400), Sub.cons' rfl rfl (Sub.cons' rfl (sl_n (Eq.symm (len_set lrs1643))) (Sub.cons' rfl rfl (Sub.nil _)))⟩
      · have hd1752 := bif_f c1351 ho1345
        refine AX.exit ?_
        obtain rfl := some_inj hd1752
        have S1753 := S1347.front 3 rfl
        have S1754 := S1753.front 3 rfl
        have S1755 := S1754.front 3 rfl
        have S1756 := S1755.front 3 rfl
        exact ⟨rs924, F918, p922, c923, T925, hk1346, S1756, hF919, tT925, hp926, Bo921, Sub.cons' rfl rfl (Sub.nil _)⟩
  · rintro t' G1758 ⟨rs1334, F1328, p1332, c1333, T1335, rfl, S1757, hF1329, tT1335, hp1336, Bo1331, hsub1759⟩
    refine ⟨_, hsub1759, ?_⟩
    refine AX.seq ?_
    refine AX.region ?_
    refine AO.p rfl (p_move rfl) ?_
    refine AO.p rfl (p_assign rfl) ?_
    refine AO.nil ?_
    refine AX.ret ?_
    have S1760 := S1757.front 0 rfl
    have S1761 := S1760.front 3 rfl
    have S1762 : St M0 H G1758 [oseg p1332 (tcells T1335), F1328, oseg p_n0 (tcells T_n0), tseg T_n0] := S1761
    obtain ⟨F1763, hF1764, hp1765, S1766⟩ := S1762.poolHdrW hp1336 Bo1331 (tlen tT1335)
    obtain rfl := some_inj hd1339
    have S1768 := S1766.front 0 rfl
    have S1769 := S1768.front 2 rfl
    have S1770 := S1769.front 2 rfl
    exact ⟨.inr rfl, _, res1 rfl (rv_tmp rfl), p1332, c1333, T1335, F1763, rfl, S1770, tT1335, hp1765, (hF1329.mono hF1764)⟩

set_option maxHeartbeats 4000000 in
theorem W_spec_l03Multiple (fu : Nat) (H : AHeap) (F : Sg) (a0 : Int) (a2 : Int) (p_n0 : Option Addr) (k_n0 c_n0 : Nat) (T_n0 : Tb) (n0 : List (List Int)) (l_n0 : n0.length = k_n0) (s_n0 : Sb p_n0 k_n0 c_n0 1) (t_n0 : trows T_n0 = n0) (z_n0 : TSb T_n0) (hn : (([oseg p_n0 (tcells T_n0), tseg T_n0, F] : List Sg).flatten.map (·.1)).Nodup) (ho : ∀ x ∈ ([oseg p_n0 (tcells T_n0), tseg T_n0, F] : List Sg).flatten, x.1 < H.length ∧ hget H x.1 = x.2) (r0 : List (List Int)) (hd : D_spec_l03Multiple fu a0 a2 k_n0 n0 = some r0) : ∃ v G', ACall Try.prog 87 [.int .i64 a0, .slice p_n0 k_n0 c_n0, .int .i64 a2] H v G' ∧ ∃ (p_r0 : Option Addr) (c_r0 : Nat) (T_r0 : Tb) (F' : Sg), (v = .slice p_r0 r0.length c_r0) ∧ St (([oseg p_n0 (tcells T_n0), tseg T_n0, F] : List Sg).flatten.map (·.1)) H G' [oseg p_n0 (tcells T_n0), tseg T_n0, F'] ∧ trows T_r0 = r0 ∧ PTw F' p_r0 c_r0 T_r0 ∧ Pin F' F := by
  refine ACall.bodyX (args := [.int .i64 a0, .slice p_n0 k_n0 c_n0, .int .i64 a2]) (N := 42) [(0, .int .i64 a0), (1, .slice p_n0 k_n0 c_n0), (2, .int .i64 a2)] (fun v G' => ∃ (p_r0 : Option Addr) (c_r0 : Nat) (T_r0 : Tb) (F' : Sg), (v = .slice p_r0 r0.length c_r0) ∧ St (([oseg p_n0 (tcells T_n0), tseg T_n0, F] : List Sg).flatten.map (·.1)) H G' [oseg p_n0 (tcells T_n0), tseg T_n0, F'] ∧ trows T_r0 = r0 ∧ PTw F' p_r0 c_r0 T_r0 ∧ Pin F' F) Try.func87 rfl rfl rfl rfl ?_
  unfold D_spec_l03Multiple at hd
  have S0 := St.initF hn ho
  generalize hM0 : (([oseg p_n0 (tcells T_n0), tseg T_n0, F] : List Sg).flatten.map (·.1)) = M0 at S0 ⊢
  refine AX.seq ?_
  refine AX.region ?_
  refine AO.p rfl (p_assign rfl) ?_
  refine AO.nil ?_
  refine AX.seq ?_
  refine AX.region ?_
  obtain ⟨G100, i101, hii101, hHG100, S102⟩ := S0.new (AObj.row false (tcells []))
  have S102t := S102.nilseg 1
  refine AO.c rfl (s_build0 (i := i101) Try.underlying43 Try.sizeOf58 hii101 hHG100) ?_
  refine AO.p rfl (p_assign rfl) ?_
  refine AO.nil ?_
  refine AX.seq ?_
  refine AX.seq ?_
  refine AX.region ?_
  refine AO.p rfl (p_assign rfl) ?_
  refine AO.nil ?_
  obtain ⟨r283, hl284, hd285⟩ := bnd_some hd
  refine AX.cutS (fun t' H' => ∃ (rs281 : List (List Int)) (p279 : Option Addr) (c280 : Nat) (T282 : Tb), rs281 = r283 ∧ St M0 H H' [F, oseg p_n0 (tcells T_n0), tseg T_n0, oseg p279 (tcells T282), tseg T282] ∧ Pin F F ∧ trows T282 = rs281 ∧ TSb T282 ∧ Sb p279 (rs281.length) c280 1 ∧ Am.Sub [(7, .slice p279 rs281.length c280)] t') ?_ ?_
  · refine AX.block ?_
    refine AX.loopF (fun s' t' H' => ∃ (rs222 : List (List Int)) (x224 : Int) (p220 : Option Addr) (c221 : Nat) (T223 : Tb), (rs222, x224) = s' ∧ St M0 H H' [F, oseg p_n0 (tcells T_n0), tseg T_n0, oseg p220 (tcells T223), tseg T223] ∧ Pin F F ∧ trows T223 = rs222 ∧ TSb T223 ∧ Sb p220 (rs222.length) c221 1 ∧ Am.Sub [(0, .int .i64 a0), (1, .slice p_n0 k_n0 c_n0), (2, .int .i64 a2), (7, .slice p220 rs222.length c221), (8, .int .i64 x224)] t') hl284 ?_ ?_
    · skip
      have S286 := S102t.front 1 rfl
      have S287 := S286.front 1 rfl
      have S288 := S287.front 3 rfl
      have S289 := S288.front 3 rfl
      have S290 := S289.front 4 rfl
      exact ⟨[], 0, (some (Addr.mk i101 0 none)), 0, [], rfl, S290, (Pin.refl F), rfl, TSb.nil, (Sb.lit (n := 0) (by decide)), Sub.cons' rfl rfl (Sub.cons' rfl rfl (Sub.cons' rfl rfl (Sub.cons' rfl rfl (Sub.cons' rfl rfl (Sub.nil _)))))⟩
    · rintro n291 _ t' G295 ⟨rs222, x224, p220, c221, T223, rfl, S294, hF217, tT223, sT223, Bo219, hsub296⟩ o297 ho292 hk293
      refine AX.sub hsub296 ?_
      unfold D_spec_l03Multiple_s0 at ho292
      refine AX.seq ?_
      refine AX.seq ?_
      refine AX.region ?_
      refine AO.p rfl (p_move rfl) ?_
      refine AO.p rfl (p_move rfl) ?_
      refine AO.p rfl (p_len_slice rfl Try.underlying43) ?_
      refine AO.p rfl (p_lss rfl rfl) ?_
      refine AO.nil ?_
      refine AX.cond rfl (fun c298 => ?_) (fun c298 => ?_)
      · have hd299 := bif_t c298 ho292
        refine AX.skip ?_
        refine AX.seq ?_
        refine AX.block ?_
        refine DR.startS [false, false, false, false, false, false, false, false, false, false, false, false, false, false, false, false, false, false, false, false, false, false, false, true, false] mix (by kernel_rfl) (fun hst => ?_)
        refine DR.p rfl rfl (p_move rfl) ?_
        refine DR.p rfl rfl (p_move rfl) ?_
        refine DR.p rfl rfl (p_move rfl) ?_
        obtain ⟨k300, hd301⟩ := chk_some hd299
        refine DR.p rfl rfl (s_indexV (q := x224.toNat) Try.underlying43 Try.sizeOf58 rfl (s_n0.at (inR_pos k300)) rfl k300 (z1 _)) ?_
        obtain ⟨p302, c303, e304, f305⟩ := tget t_n0 (lt_len l_n0 (inR_lt k300))
        refine DR.r rfl rfl (r_load rfl Try.isAgg58) (one_read (row_cell (S294.oat (k := 1) rfl (s_n0.at (inR_pos k300))) f305) (TVw.at (S294.oviewT (k := 2) rfl z_n0) e304).inn.bel) ?_
        obtain ⟨k306, hd307⟩ := chk_some hd301
        refine DR.p rfl rfl (s_indexV (q := off p302 + 0) Try.underlying58 Try.sizeOf2 rfl ((TVw.at (S294.oviewT (k := 2) rfl z_n0) e304).p (ints_get (lt_len rfl (inR_lt k306)))) rfl k306 (o1 _ _)) ?_
        refine DR.r rfl rfl (r_load rfl Try.isAgg2) (one_read ((TVw.at (S294.oviewT (k := 2) rfl z_n0) e304).get _ _ (ints_get (lt_len rfl (inR_lt k306)))) (.of_flat0 rfl)) ?_
        refine DR.p rfl rfl (p_move rfl) ?_
        obtain ⟨k308, hd309⟩ := chk_some hd307
        refine DR.p rfl rfl (p_mulE rfl rfl k308) ?_
        refine DR.p rfl rfl (p_move rfl) ?_
        obtain ⟨k310, hd311⟩ := chk_some hd309
        refine DR.p rfl rfl (p_remE rfl rfl k310) ?_
        refine DR.p rfl rfl (p_move rfl) ?_
        refine DR.p rfl rfl (p_move rfl) ?_
        obtain ⟨k312, hd313⟩ := chk_some hd311
        refine DR.p rfl rfl (s_indexV (q := x224.toNat) Try.underlying43 Try.sizeOf58 rfl (s_n0.at (inR_pos k312)) rfl k312 (z1 _)) ?_
        obtain ⟨p314, c315, e316, f317⟩ := tget t_n0 (lt_len l_n0 (inR_lt k312))
        refine DR.r rfl rfl (r_load rfl Try.isAgg58) (one_read (row_cell (S294.oat (k := 1) rfl (s_n0.at (inR_pos k312))) f317) (TVw.at (S294.oviewT (k := 2) rfl z_n0) e316).inn.bel) ?_
        obtain ⟨k318, hd319⟩ := chk_some hd313
        refine DR.p rfl rfl (s_indexV (q := off p314 + 1) Try.underlying58 Try.sizeOf2 rfl ((TVw.at (S294.oviewT (k := 2) rfl z_n0) e316).p (ints_get (lt_len rfl (inR_lt k318)))) rfl k318 (o1 _ _)) ?_
        refine DR.r rfl rfl (r_load rfl Try.isAgg2) (one_read ((TVw.at (S294.oviewT (k := 2) rfl z_n0) e316).get _ _ (ints_get (lt_len rfl (inR_lt k318)))) (.of_flat0 rfl)) ?_
        refine DR.p rfl rfl (p_move rfl) ?_
        obtain ⟨k320, hd321⟩ := chk_some hd319
        refine DR.p rfl rfl (p_mulE rfl rfl k320) ?_
        refine DR.p rfl rfl (p_move rfl) ?_
        obtain ⟨k322, hd323⟩ := chk_some hd321
        refine DR.p rfl rfl (p_remE rfl rfl k322) ?_
        obtain ⟨G324, i325, hii325, hHG324, S326⟩ := S294.new (AObj.row false (ints [((rd (rw_ n0 x224.toNat) 0) * a2).tmod a0, ((rd (rw_ n0 x224.toNat) 1) * a2).tmod a0]))
        refine DR.a rfl rfl hii325 hHG324 (a_buildInts (vs := [(0, .int .i64 (((rd (rw_ n0 x224.toNat) 0) * a2).tmod a0)), (1, .int .i64 (((rd (rw_ n0 x224.toNat) 1) * a2).tmod a0))]) (xs := [((rd (rw_ n0 x224.toNat) 0) * a2).tmod a0, ((rd (rw_ n0 x224.toNat) 1) * a2).tmod a0]) Try.underlying58 Try.sizeOf2 Try.zeroValue2 rfl rfl (by decide) rfl rfl) ?_
        obtain ⟨G328, i329, hii329, hHG328, S330⟩ := S326.new (AObj.row false (tcells ([((some (Addr.mk i325 0 none)), 2, [((rd (rw_ n0 x224.toNat) 0) * a2).tmod a0, ((rd (rw_ n0 x224.toNat) 1) * a2).tmod a0])])))
        have S332 := (S330.front 1 rfl).tone (some (Addr.mk i325 0 none)) 2 [((rd (rw_ n0 x224.toNat) 0) * a2).tmod a0, ((rd (rw_ n0 x224.toNat) 1) * a2).tmod a0] rfl
        refine DR.a rfl rfl hii329 hHG328 (a_buildT1 (X := [((some (Addr.mk i325 0 none)), 2, [((rd (rw_ n0 x224.toNat) 0) * a2).tmod a0, ((rd (rw_ n0 x224.toNat) 1) * a2).tmod a0])]) (n := 2) rfl Try.underlying43 Try.sizeOf58 Try.zeroValue58 rfl rfl) ?_
        obtain ⟨k333, hd334⟩ := chk_some hd323
        obtain ⟨p335, c336, G337, haG337, S338, Bp335⟩ := S332.app (k := 5) rfl Bo219 (tcells ([((some (Addr.mk i325 0 none)), 2, [((rd (rw_ n0 x224.toNat) 0) * a2).tmod a0, ((rd (rw_ n0 x224.toNat) 1) * a2).tmod a0])])) 1 (tc_len1 rfl rfl)
        have S339 := S338.cellsEq (k := 5) (us' := tcells (T223 ++ [((some (Addr.mk i325 0 none)), 2, [((rd (rw_ n0 x224.toNat) 0) * a2).tmod a0, ((rd (rw_ n0 x224.toNat) 1) * a2).tmod a0])])) (tcells_app _ _).symm rfl
        have BS339 : Sb p335 ((rs222 ++ [[((rd (rw_ n0 x224.toNat) 0) * a2).tmod a0, ((rd (rw_ n0 x224.toNat) 1) * a2).tmod a0]]).length) c336 1 := (show rs222.length + 1 = (rs222 ++ [[((rd (rw_ n0 x224.toNat) 0) * a2).tmod a0, ((rd (rw_ n0 x224.toNat) 1) * a2).tmod a0]]).length from len_app (a := rs222) (b := [[((rd (rw_ n0 x224.toNat) 0) * a2).tmod a0, ((rd (rw_ n0 x224.toNat) 1) * a2).tmod a0]]) rfl rfl) ▸ Bp335
        have S340 := S339.front 0 rfl
        have S341 := (S340.front 6 rfl).tmerge
        have S342 := S341.drop 1 rfl
        refine DR.w rfl rfl (s_app (by_ := 24) (us := tcells T223) (vs := tcells ([((some (Addr.mk i325 0 none)), 2, [((rd (rw_ n0 x224.toNat) 0) * a2).tmod a0, ((rd (rw_ n0 x224.toNat) 1) * a2).tmod a0])])) Try.underlying43 Try.underlying43 Try.typeInfo58 Try.sizeOf58 Try.zeroValue58 rfl rfl rfl rfl rfl rfl rfl (S332.buf (k := 5) rfl Bo219 (tc_len1 tT223 rfl)) (S332.oview (k := 1) rfl (Sb.lit (n := 1) (by decide)) (tc_len1 rfl rfl)) (tc_len1 rfl rfl) tcells_one k333 haG337 (show rs222.length + 1 = (rs222 ++ [[((rd (rw_ n0 x224.toNat) 0) * a2).tmod a0, ((rd (rw_ n0 x224.toNat) 1) * a2).tmod a0]]).length from len_app (a := rs222) (b := [[((rd (rw_ n0 x224.toNat) 0) * a2).tmod a0, ((rd (rw_ n0 x224.toNat) 1) * a2).tmod a0]]) rfl rfl)) (appR_len haG337) ?_
        refine DR.p rfl rfl (p_assign rfl) ?_
        refine DR.nil 25 [] hst (by kernel_rfl) trivial ?_
        refine AX.region ?_
        refine AO.p rfl (p_move rfl) ?_
        obtain ⟨k343, hd344⟩ := chk_some hd334
        refine AO.p rfl (p_addE rfl rfl k343) ?_
        refine AO.p rfl (p_assign rfl) ?_
        refine AO.nil ?_
        obtain rfl := some_inj hd344
        have S346 := S342.front 0 rfl
        have S347 := S346.front 4 rfl
        have S348 := S347.front 4 rfl
        have S349 := S348.front 4 rfl
        have S350 := S349.front 4 rfl
        exact ⟨((rs222 ++ [[((rd (rw_ n0 x224.toNat) 0) * a2).tmod a0, ((rd (rw_ n0 x224.toNat) 1) * a2).tmod a0]]), x224 + 1), hk293, (rs222 ++ [[((rd (rw_ n0 x224.toNat) 0) * a2).tmod a0, ((rd (rw_ n0 x224.toNat) 1) * a2).tmod a0]]), (x224 + 1), p335, c336, (T223 ++ [((some (Addr.mk i325 0 none)), 2, [((rd (rw_ n0 x224.toNat) 0) * a2).tmod a0, ((rd (rw_ n0 x224.toNat) 1) * a2).tmod a0])]), rfl, S350, hF217, (trows_apps tT223 rfl), (TSb.app sT223 (TSb.one (sb_len rfl (Sb.lit (n := 2) (by decide))))), BS339, Sub.cons' rfl rfl (Sub.cons' rfl rfl (Sub.cons' rfl rfl (Sub.cons' rfl rfl (Sub.cons' rfl rfl (Sub.nil _)))))⟩
      · have hd351 := bif_f c298 ho292
        refine AX.exit ?_
        obtain rfl := some_inj hd351
        have S352 := S294.front 4 rfl
        have S353 := S352.front 4 rfl
        have S354 := S353.front 4 rfl
        have S355 := S354.front 4 rfl
        have S356 := S355.front 4 rfl
        exact ⟨rs222, p220, c221, T223, hk293, S356, hF217, tT223, sT223, Bo219, Sub.cons' rfl rfl (Sub.nil _)⟩
  · rintro t' G358 ⟨rs281, p279, c280, T282, rfl, S357, hF276, tT282, sT282, Bo278, hsub359⟩
    refine ⟨_, hsub359, ?_⟩
    refine AX.seq ?_
    refine AX.region ?_
    refine AO.p rfl (p_move rfl) ?_
    have S360 := S357.front 0 rfl
    have S361 := S360.front 4 rfl
    have S362 := S361.front 4 rfl
    have S363 : St M0 H G358 [oseg p279 (tcells T282), tseg T282, F, oseg p_n0 (tcells T_n0), tseg T_n0] := S362
    obtain ⟨rs364, h365, hd366⟩ := bnd_some hd285
    obtain ⟨_, G375, hc377, p368, c369, T370, F367, rfl, S376, t371, hv372, hF374⟩ := W_spec_l03Sorted fu G358 F p279 rs281.length c280 T282 rs281 rfl Bo278 tT282 sT282 (St.fnodup (A := [oseg p279 (tcells T282), tseg T282, F]) S363) (St.fmem (A := [oseg p279 (tcells T282), tseg T282, F]) S363) rs364 h365
    have S378 := St.callM (A := [oseg p279 (tcells T282), tseg T282, F]) S363 S376 (fun j h => h)
    refine AO.c rfl (o_call (vs := [.slice p279 rs281.length c280]) rfl Try.call130 hc377) ?_
    refine AO.p rfl (p_assign rfl) ?_
    refine AO.nil ?_
    refine AX.ret ?_
    obtain rfl := some_inj hd366
    have S379 := S378.front 2 rfl
    have S380 := S379.front 4 rfl
    have S381 := S380.front 4 rfl
    have S382 := S381.keep 3
    exact ⟨.inr rfl, _, res1 rfl (rv_tmp rfl), p368, c369, T370, F367, rfl, S382, t371, hv372, (hF276.mono hF374)⟩

set_option maxHeartbeats 4000000 in
theorem W_spec_MultipleOf (fu : Nat) (H : AHeap) (F : Sg) (a0 : Int) (a2 : Int) (p_n0 : Option Addr) (k_n0 c_n0 : Nat) (T_n0 : Tb) (n0 : List (List Int)) (l_n0 : n0.length = k_n0) (s_n0 : Sb p_n0 k_n0 c_n0 1) (t_n0 : trows T_n0 = n0) (z_n0 : TSb T_n0) (hn : (([oseg p_n0 (tcells T_n0), tseg T_n0, F] : List Sg).flatten.map (·.1)).Nodup) (ho : ∀ x ∈ ([oseg p_n0 (tcells T_n0), tseg T_n0, F] : List Sg).flatten, x.1 < H.length ∧ hget H x.1 = x.2) (r0 : List (List Int)) (r1 : Int) (hd : D_spec_MultipleOf fu a0 a2 k_n0 n0 = some (r0, r1)) : ∃ v G', ACall Try.prog 30 [.int .i64 a0, .slice p_n0 k_n0 c_n0, .int .i64 a2] H v G' ∧ ∃ (p_r0 : Option Addr) (c_r0 : Nat) (T_r0 : Tb) (F' : Sg), (v = .tuple #[.slice p_r0 r0.length c_r0, .int .i64 r1]) ∧ St (([oseg p_n0 (tcells T_n0), tseg T_n0, F] : List Sg).flatten.map (·.1)) H G' [oseg p_n0 (tcells T_n0), tseg T_n0, F'] ∧ trows T_r0 = r0 ∧ PTw F' p_r0 c_r0 T_r0 ∧ Pin F' F := by
  refine ACall.bodyX (args := [.int .i64 a0, .slice p_n0 k_n0 c_n0, .int .i64 a2]) (N := 34) [(0, .int .i64 a0), (1, .slice p_n0 k_n0 c_n0), (2, .int .i64 a2)] (fun v G' => ∃ (p_r0 : Option Addr) (c_r0 : Nat) (T_r0 : Tb) (F' : Sg), (v = .tuple #[.slice p_r0 r0.length c_r0, .int .i64 r1]) ∧ St (([oseg p_n0 (tcells T_n0), tseg T_n0, F] : List Sg).flatten.map (·.1)) H G' [oseg p_n0 (tcells T_n0), tseg T_n0, F'] ∧ trows T_r0 = r0 ∧ PTw F' p_r0 c_r0 T_r0 ∧ Pin F' F) Try.func30 rfl rfl rfl rfl ?_
  unfold D_spec_MultipleOf at hd
  have S0 := St.initF hn ho
  generalize hM0 : (([oseg p_n0 (tcells T_n0), tseg T_n0, F] : List Sg).flatten.map (·.1)) = M0 at S0 ⊢
  refine AX.seq ?_
  refine AX.region ?_
  refine AO.p rfl (p_assign rfl) ?_
  refine AO.p rfl (p_assign rfl) ?_
  refine AO.nil ?_
  refine AX.seq ?_
  refine AX.region ?_
  refine AO.p rfl (p_move rfl) ?_
  refine AO.p rfl (p_move rfl) ?_
  obtain ⟨x100, h101, hd102⟩ := bnd_some hd
  refine AO.c rfl (o_call (vs := [.int .i64 a0, .slice p_n0 k_n0 c_n0]) rfl Try.call85 (by have h' := W_spec_l03Code fu H a0 p_n0 c_n0 T_n0 n0 t_n0 (by rw [show List.length n0 = k_n0 from l_n0]; exact (S0.oview (k := 0) rfl s_n0 (tc_len1 t_n0 l_n0))) (S0.oviewT (k := 1) rfl z_n0) x100 h101; rw [show List.length n0 = k_n0 from l_n0] at h'; exact h')) ?_
  refine AO.p rfl (p_assign rfl) ?_
  refine AO.nil ?_
  refine AX.seq ?_
  obtain ⟨r123, hb124, hd125⟩ := bnd_some hd102
  refine AX.cut (fun t' H' => ∃ (b122 : Bool), b122 = r123 ∧ St M0 H H' [F, oseg p_n0 (tcells T_n0), tseg T_n0] ∧ Pin F F ∧ Am.Sub [(0, .int .i64 a0), (1, .slice p_n0 k_n0 c_n0), (2, .int .i64 a2), (8, .int .i64 x100), (26, .bool b122)] t') ?_ ?_
  · skip
    refine AX.region ?_
    refine AO.p rfl (p_move rfl) ?_
    refine AO.p rfl (p_neq rfl rfl) ?_
    refine AO.p rfl (p_move rfl) ?_
    refine AO.cases (d := 14) rfl (fun c126 => ?_) (fun c126 => ?_)
    · have hd127 := bif_t c126 hb124
      refine AO.gp rfl rfl rfl (p_move rfl) ?_
      refine AO.gp rfl rfl rfl (p_move rfl) ?_
      obtain ⟨k128, hd129⟩ := chk_some hd127
      refine AO.gp rfl rfl rfl (p_subE rfl rfl k128) ?_
      obtain ⟨b130, h131, hd132⟩ := bnd_some hd129
      refine AO.gc rfl rfl rfl (o_call (vs := [.int .i64 a2, .int .i64 1, .int .i64 (a0 - 1)]) rfl Try.call50 (W_spec_l01In fu H a2 1 (a0 - 1) b130 h131)) ?_
      refine AO.gp rfl rfl rfl (p_not rfl) ?_
      refine AO.gp rfl rfl rfl (p_move rfl) ?_
      refine AO.cases (d := 20) rfl (fun c134 => ?_) (fun c134 => ?_)
      · have hd135 := bif_t c134 hd132
        refine AO.gn rfl rfl rfl ?_
        refine AO.gn rfl rfl rfl ?_
        refine AO.gn rfl rfl rfl ?_
        refine AO.gn rfl rfl rfl ?_
        refine AO.gp rfl rfl rfl (p_pickT rfl rfl) ?_
        refine AO.p rfl (p_pickT rfl rfl) ?_
        refine AO.nil ?_
        have S136 := S0.front 1 rfl
        have S137 := S136.front 1 rfl
        have S138 := S137.front 2 rfl
        exact ⟨true, (some_inj hd135), S138, (Pin.refl F), Sub.cons' rfl rfl (Sub.cons' rfl rfl (Sub.cons' rfl rfl (Sub.cons' rfl rfl (Sub.cons' rfl rfl (Sub.nil _)))))⟩
      · have hd139 := bif_f c134 hd132
        refine AO.gp rfl rfl rfl (p_move rfl) ?_
        refine AO.gp rfl rfl rfl (p_move rfl) ?_
        obtain ⟨x140, h141, hd142⟩ := bnd_some hd139
        refine AO.gc rfl rfl rfl (o_call (vs := [.int .i64 a2, .int .i64 a0]) rfl Try.call86 (W_spec_l03Gcd fu H a2 a0 x140 h141)) ?_
        refine AO.gp rfl rfl rfl (p_neq rfl rfl) ?_
        refine AO.gp rfl rfl rfl (p_pickF rfl rfl) ?_
        refine AO.p rfl (p_pickT rfl rfl) ?_
        refine AO.nil ?_
        have S144 := S0.front 1 rfl
        have S145 := S144.front 1 rfl
        have S146 := S145.front 2 rfl
        exact ⟨(!decide (x140 = 1)), (some_inj hd142), S146, (Pin.refl F), Sub.cons' rfl rfl (Sub.cons' rfl rfl (Sub.cons' rfl rfl (Sub.cons' rfl rfl (Sub.cons' rfl rfl (Sub.nil _)))))⟩
    · have hd147 := bif_f c126 hb124
      refine AO.gn rfl rfl rfl ?_
      refine AO.gn rfl rfl rfl ?_
      refine AO.gn rfl rfl rfl ?_
      refine AO.gn rfl rfl rfl ?_
      refine AO.gn rfl rfl rfl ?_
      refine AO.gn rfl rfl rfl ?_
      refine AO.gu rfl rfl rfl ?_
      refine AO.gu rfl rfl rfl ?_
      refine AO.gu rfl rfl rfl ?_
      refine AO.gu rfl rfl rfl ?_
      refine AO.gn rfl rfl rfl ?_
      refine AO.p rfl (p_pickF rfl rfl) ?_
      refine AO.nil ?_
      have S148 := S0.front 1 rfl
      have S149 := S148.front 1 rfl
      have S150 := S149.front 2 rfl
      exact ⟨false, (some_inj hd147), S150, (Pin.refl F), Sub.cons' rfl rfl (Sub.cons' rfl rfl (Sub.cons' rfl rfl (Sub.cons' rfl rfl (Sub.cons' rfl rfl (Sub.nil _)))))⟩
  · rintro t' G152 ⟨b122, rfl, S151, hF120, hsub153⟩
    refine AX.sub hsub153 ?_
    obtain ⟨r160, hb161, hd162⟩ := bnd_some hd125
    refine AX.cutS (fun t' H' => ∃ (x159 : Int), x159 = r160 ∧ St M0 H H' [F, oseg p_n0 (tcells T_n0), tseg T_n0] ∧ Pin F F ∧ Am.Sub [(0, .int .i64 a0), (1, .slice p_n0 k_n0 c_n0), (2, .int .i64 a2), (8, .int .i64 x159)] t') ?_ ?_
    · skip
      refine AX.cond rfl (fun c163 => ?_) (fun c163 => ?_)
      · have hd164 := bif_t c163 hb161
        refine AX.region ?_
        refine AO.p rfl (p_assign rfl) ?_
        refine AO.nil ?_
        have S165 := S151.front 2 rfl
        have S166 := S165.front 2 rfl
        have S167 := S166.front 2 rfl
        exact ⟨2, (some_inj hd164), S167, hF120, Sub.cons' rfl rfl (Sub.cons' rfl rfl (Sub.cons' rfl rfl (Sub.cons' rfl rfl (Sub.nil _))))⟩
      · have hd168 := bif_f c163 hb161
        refine AX.skip ?_
        have S169 := S151.front 2 rfl
        have S170 := S169.front 2 rfl
        have S171 := S170.front 2 rfl
        exact ⟨x100, (some_inj hd168), S171, hF120, Sub.cons' rfl rfl (Sub.cons' rfl rfl (Sub.cons' rfl rfl (Sub.cons' rfl rfl (Sub.nil _))))⟩
    · rintro t' G173 ⟨x159, rfl, S172, hF157, hsub174⟩
      refine ⟨_, hsub174, ?_⟩
      refine AX.seq ?_
      refine AX.seq ?_
      refine AX.region ?_
      refine AO.p rfl (p_move rfl) ?_
      refine AO.p rfl (p_neq rfl rfl) ?_
      refine AO.nil ?_
      refine AX.cond rfl (fun c175 => ?_) (fun c175 => ?_)
      · have hd176 := bif_t c175 hd162
        refine AX.seq ?_
        refine AX.region ?_
        refine AO.p rfl (p_move rfl) ?_
        refine AO.p rfl (p_assign rfl) ?_
        refine AO.p rfl (p_assign rfl) ?_
        refine AO.nil ?_
        refine AX.ret ?_
        obtain ⟨rfl, rfl⟩ := Prod.mk.inj (some_inj hd176)
        have S178 := S172.front 0 rfl
        have S179 := S178.front 2 rfl
        have S180 := S179.front 2 rfl
        exact ⟨.inr rfl, _, res2 rfl (rv_tmp rfl) (rv_tmp rfl), none, 0, [], F, rfl, S180, rfl, PTw.nil, hF157⟩
      · have hd181 := bif_f c175 hd162
        refine AX.skip ?_
        refine AX.seq ?_
        refine AX.region ?_
        refine AO.p rfl (p_move rfl) ?_
        refine AO.p rfl (p_move rfl) ?_
        refine AO.p rfl (p_move rfl) ?_
        have S182 := S172.front 0 rfl
        have S183 := S182.front 2 rfl
        have S184 := S183.front 2 rfl
        have S185 : St M0 H G173 [oseg p_n0 (tcells T_n0), tseg T_n0, F] := S184
        obtain ⟨rs186, h187, hd188⟩ := bnd_some hd181
        obtain ⟨_, G197, hc199, p190, c191, T192, F189, rfl, S198, t193, hv194, hF196⟩ := W_spec_l03Multiple fu G173 F a0 a2 p_n0 k_n0 c_n0 T_n0 n0 l_n0 s_n0 t_n0 z_n0 (St.fnodup (A := [oseg p_n0 (tcells T_n0), tseg T_n0, F]) S185) (St.fmem (A := [oseg p_n0 (tcells T_n0), tseg T_n0, F]) S185) rs186 h187
        have S200 := St.callM (A := [oseg p_n0 (tcells T_n0), tseg T_n0, F]) S185 S198 (fun j h => h)
        refine AO.c rfl (o_call (vs := [.int .i64 a0, .slice p_n0 k_n0 c_n0, .int .i64 a2]) rfl Try.call87 hc199) ?_
        refine AO.p rfl (p_assign rfl) ?_
        refine AO.p rfl (p_assign rfl) ?_
        refine AO.nil ?_
        refine AX.ret ?_
        obtain ⟨rfl, rfl⟩ := Prod.mk.inj (some_inj hd188)
        have S202 := S200.front 2 rfl
        have S203 := S202.front 2 rfl
        have S204 := S203.front 2 rfl
        exact ⟨.inr rfl, _, res2 rfl (rv_tmp rfl) (rv_tmp rfl), p190, c191, T192, F189, rfl, S204, t193, hv194, (hF157.mono hF196)⟩

set_option maxHeartbeats 4000000 in
theorem W_laws_FnExactMultipleOf (fu : Nat) (H : AHeap) (a0 : Int) (p_a1 : Option Addr) (c_a1 : Nat) (T_a1 : Tb) (a1 : List (List Int)) (t_a1 : trows T_a1 = a1) (v_a1 : Vw H p_a1 a1.length c_a1 (tcells T_a1)) (w_a1 : TVw H T_a1) (a2 : Int) (r0 : Bool) (hd : D_laws_FnExactMultipleOf fu a0 a1 a2 = some r0) : ACall Try.prog 8 [.int .i64 a0, .slice p_a1 a1.length c_a1, .int .i64 a2] H (.bool r0) H := by
  refine ACall.bodyP (N := 106) [(0, .int .i64 a0), (1, .slice p_a1 a1.length c_a1), (2, .int .i64 a2)] Try.func8 rfl rfl rfl rfl ?_
  unfold D_laws_FnExactMultipleOf at hd
  have S0 : St [] H H [] := St.nil H
  have S0 := S0.poolNew
  refine AX.seq ?_
  refine AX.region ?_
  refine AO.p rfl (p_assign rfl) ?_
  refine AO.nil ?_
  refine AX.seq ?_
  refine AX.region ?_
  refine AO.p rfl (p_assign rfl) ?_
  refine AO.nil ?_
  refine AX.seq ?_
  refine AX.region ?_
  refine AO.p rfl (p_move rfl) ?_
  refine AO.p rfl (p_move rfl) ?_
  obtain ⟨x100, h101, hd102⟩ := bnd_some hd
  refine AO.c rfl (o_call (vs := [.slice p_a1 a1.length c_a1, .int .i64 1048576]) rfl Try.call29 (W_laws_szInt64SS fu H p_a1 c_a1 T_a1 a1 t_a1 (S0.view v_a1) (S0.tview w_a1) 1048576 x100 h101)) ?_
  refine AO.p rfl (p_assign rfl) ?_
  refine AO.nil ?_
  refine AX.seq ?_
  refine AX.seq ?_
  refine AX.region ?_
  refine AO.p rfl (p_move rfl) ?_
  refine AO.p rfl (p_lss rfl rfl) ?_
  refine AO.nil ?_
  refine AX.cond rfl (fun c104 => ?_) (fun c104 => ?_)
  · have hd105 := bif_t c104 hd102
    refine AX.seq ?_
    refine AX.region ?_
    refine AO.p rfl (p_assign rfl) ?_
    refine AO.nil ?_
    refine AX.ret ?_
    obtain rfl := some_inj hd105
    exact ⟨.inr rfl, _, res1 rfl (rv_tmp rfl), rfl, (flatB_ok rfl), S0.hold⟩
  · have hd106 := bif_f c104 hd102
    refine AX.skip ?_
    refine AX.seq ?_
    refine AX.region ?_
    refine AO.p rfl (p_move rfl) ?_
    refine AO.p rfl (p_move rfl) ?_
    obtain ⟨rs107, h108, hd109⟩ := bnd_some hd106
    obtain ⟨_, G118, hc117, p110, c111, T114, rfl, S119, B113, t115, s116⟩ := W_laws_toInt64SS fu H p_a1 c_a1 T_a1 a1 t_a1 (S0.view v_a1) (S0.tview w_a1) rs107 h108
    have S120 := S0.call S119
    refine AO.c rfl (o_call (vs := [.slice p_a1 a1.length c_a1]) rfl Try.call31 hc117) ?_
    refine AO.p rfl (p_move rfl) ?_
    have S121 := S120.front 2 rfl
    have S122 := S121.front 2 rfl
    have S123 := S122.front 2 rfl
    obtain ⟨⟨rs124, x125⟩, h126, hd127⟩ := bnd_some hd109
    obtain ⟨_, G136, hc138, p129, c130, T131, F128, rfl, S137, t132, hv133, hF135⟩ := W_spec_MultipleOf fu G118 ([] : Sg) a0 a2 p110 rs107.length c111 T114 rs107 rfl B113 t115 s116 (St.fnodup (A := [oseg p110 (tcells T114), tseg T114, ([] : Sg)]) S123) (St.fmem (A := [oseg p110 (tcells T114), tseg T114, ([] : Sg)]) S123) rs124 x125 h126
    have S139 := St.callM (A := [oseg p110 (tcells T114), tseg T114, ([] : Sg)]) S123 S137 (fun j h => h)
    refine AO.c rfl (o_call (vs := [.int .i64 a0, .slice p110 rs107.length c111, .int .i64 a2]) rfl Try.call30 hc138) ?_
    refine AO.p rfl (p_move rfl) ?_
    refine AO.p rfl (p_extract rfl rfl) ?_
    refine AO.p rfl (p_extract rfl rfl) ?_
    refine AO.p rfl (p_assign rfl) ?_
    refine AO.p rfl (p_assign rfl) ?_
    refine AO.nil ?_
    refine AX.seq ?_
    refine AX.region ?_
    refine AO.p rfl (p_move rfl) ?_
    obtain ⟨rs140, h141, hd142⟩ := bnd_some hd127
    obtain ⟨_, G151, hc150, p143, c144, T147, rfl, S152, B146, t148, s149⟩ := W_laws_toInt64SS fu G136 p_a1 c_a1 T_a1 a1 t_a1 (S139.view v_a1) (S139.tview w_a1) rs140 h141
    have S153 := S139.call S152
    refine AO.c rfl (o_call (vs := [.slice p_a1 a1.length c_a1]) rfl Try.call31 hc150) ?_
    refine AO.p rfl (p_assign rfl) ?_
    refine AO.nil ?_
    refine AX.seq ?_
    refine AX.region ?_
    refine AO.p rfl (p_move rfl) ?_
    refine AO.p rfl (p_move rfl) ?_
    refine AO.p rfl (p_move rfl) ?_
    obtain ⟨⟨rs154, x155⟩, h156, hd157⟩ := bnd_some hd142
    obtain ⟨_, G166, hc165, p158, c159, T162, rfl, S167, B161, t163, s164⟩ := W_impl_MultipleOf fu G151 a0 p143 c144 T147 rs140 t148 (S153.oview (k := 0) rfl B146 (tc_len1 t148 rfl)) (S153.oviewT (k := 1) rfl s149) a2 rs154 x155 h156
    have S168 := S153.call S167
    refine AO.c rfl (o_call (vs := [.int .i64 a0, .slice p143 rs140.length c144, .int .i64 a2]) rfl Try.call32 hc165) ?_
    refine AO.p rfl (p_move rfl) ?_
    refine AO.p rfl (p_extract rfl rfl) ?_
    refine AO.p rfl (p_extract rfl rfl) ?_
    refine AO.p rfl (p_assign rfl) ?_
    refine AO.p rfl (p_assign rfl) ?_
    refine AO.nil ?_
    refine AX.seq ?_
    obtain ⟨r181, hb182, hd183⟩ := bnd_some hd157
    refine AX.cut (fun t' H' => ∃ (b180 : Bool), b180 = r181 ∧ St [] H H' [F128, oseg p143 (tcells T147), tseg T147, oseg p158 (tcells T162), tseg T162] ∧ PTw F128 p129 c130 T131 ∧ Am.Sub [(0, .int .i64 a0), (1, .slice p_a1 a1.length c_a1), (2, .int .i64 a2), (8, .slice p129 rs124.length c130), (9, .int .i64 x125), (10, .slice p143 rs140.length c144), (11, .slice p158 rs154.length c159), (12, .int .i64 x155), (48, .bool b180)] t') ?_ ?_
    · skip
      refine AX.region ?_
      refine AO.p rfl (p_move rfl) ?_
      refine AO.p rfl (p_move rfl) ?_
      obtain ⟨b184, h185, hd186⟩ := bnd_some hb182
      refine AO.c rfl (o_call (vs := [.slice p158 rs154.length c159, .slice p129 rs124.length c130]) rfl Try.call26 (W_laws_eqInt64SS fu G166 p158 c159 T162 rs154 t163 (S168.oview (k := 0) rfl B161 (tc_len1 t163 rfl)) (S168.oviewT (k := 1) rfl s164) p129 c130 T131 rs124 t132 (S168.ptwview (k := 6) rfl hv133 (tlen t132)) (S168.prwview (k := 6) rfl (hv133).rs) b184 h185)) ?_
      refine AO.p rfl (p_not rfl) ?_
      refine AO.p rfl (p_move rfl) ?_
      refine AO.cases (d := 44) rfl (fun c188 => ?_) (fun c188 => ?_)
      · have hd189 := bif_t c188 hd186
        refine AO.gn rfl rfl rfl ?_
        refine AO.gn rfl rfl rfl ?_
        refine AO.gn rfl rfl rfl ?_
        refine AO.p rfl (p_pickT rfl rfl) ?_
        refine AO.nil ?_
        have S190 := S168.front 1 rfl
        have S191 := S190.front 1 rfl
        have S192 := S191.front 3 rfl
        have S193 := S192.front 3 rfl
        have S194 := S193.front 6 rfl
        have S195 := S194.keep 5
        exact ⟨true, (some_inj hd189), S195, hv133, Sub.cons' rfl rfl (Sub.cons' rfl rfl (Sub.cons' rfl rfl (Sub.cons' rfl rfl (Sub.cons' rfl rfl (Sub.cons' rfl rfl (Sub.cons' rfl rfl (Sub.cons' rfl rfl (Sub.cons' rfl rfl (Sub.nil _)))))))))⟩
      · have hd196 := bif_f c188 hd186
        refine AO.gp rfl rfl rfl (p_move rfl) ?_
        refine AO.gp rfl rfl rfl (p_move rfl) ?_
        refine AO.gp rfl rfl rfl (p_neq rfl rfl) ?_
        refine AO.p rfl (p_pickF rfl rfl) ?_
        refine AO.nil ?_
        have S197 := S168.front 1 rfl
        have S198 := S197.front 1 rfl
        have S199 := S198.front 3 rfl
        have S200 := S199.front 3 rfl
        have S201 := S200.front 6 rfl
        have S202 := S201.keep 5
        exact ⟨(!decide (x155 = x125)), (some_inj hd196), S202, hv133, Sub.cons' rfl rfl (Sub.cons' rfl rfl (Sub.cons' rfl rfl (Sub.cons' rfl rfl (Sub.cons' rfl rfl (Sub.cons' rfl rfl (Sub.cons' rfl rfl (Sub.cons' rfl rfl (Sub.cons' rfl rfl (Sub.nil _)))))))))⟩
    · rintro t' G204 ⟨b180, rfl, S203, hv177, hsub205⟩
      refine AX.sub hsub205 ?_
      refine AX.cond rfl (fun c206 => ?_) (fun c206 => ?_)
      · have hd207 := bif_t c206 hd183
        refine AX.seq ?_
        refine AX.region ?_
        refine AO.p rfl (p_assign rfl) ?_
        refine AO.nil ?_
        refine AX.ret ?_
        obtain rfl := some_inj hd207
        exact ⟨.inr rfl, _, res1 rfl (rv_tmp rfl), rfl, (flatB_ok rfl), S203.hold⟩
      · have hd208 := bif_f c206 hd183
        refine AX.skip ?_
        refine AX.seq ?_
        refine AX.seq ?_
        refine AX.region ?_
        refine AO.p rfl (p_move rfl) ?_
        refine AO.p rfl (p_move rfl) ?_
        obtain ⟨rs209, h210, hd211⟩ := bnd_some hd208
        obtain ⟨_, G220, hc219, p212, c213, T216, rfl, S221, B215, t217, s218⟩ := W_laws_toInt64SS fu G204 p_a1 c_a1 T_a1 a1 t_a1 (S203.view v_a1) (S203.tview w_a1) rs209 h210
        have S222 := S203.call S221
        refine AO.c rfl (o_call (vs := [.slice p_a1 a1.length c_a1]) rfl Try.call31 hc219) ?_
        obtain ⟨b223, h224, hd225⟩ := bnd_some hd211
        refine AO.c rfl (o_call (vs := [.slice p143 rs140.length c144, .slice p212 rs209.length c213]) rfl Try.call26 (W_laws_eqInt64SS fu G220 p143 c144 T147 rs140 t148 (S222.oview (k := 3) rfl B146 (tc_len1 t148 rfl)) (S222.oviewT (k := 4) rfl s149) p212 c213 T216 rs209 t217 (S222.oview (k := 0) rfl B215 (tc_len1 t217 rfl)) (S222.oviewT (k := 1) rfl s218) b223 h224)) ?_
        refine AO.p rfl (p_not rfl) ?_
        refine AO.nil ?_
        refine AX.cond rfl (fun c227 => ?_) (fun c227 => ?_)
        · have hd228 := bif_t c227 hd225
          refine AX.seq ?_
          refine AX.region ?_
          refine AO.p rfl (p_assign rfl) ?_
          refine AO.nil ?_
          refine AX.ret ?_
          obtain rfl := some_inj hd228
          exact ⟨.inr rfl, _, res1 rfl (rv_tmp rfl), rfl, (flatB_ok rfl), S222.hold⟩
        · have hd229 := bif_f c227 hd225
          refine AX.skip ?_
          refine AX.seq ?_
          refine AX.region ?_
          refine AO.p rfl (p_assign rfl) ?_
          refine AO.nil ?_
          refine AX.seq ?_
          refine AX.region ?_
          refine AO.p rfl (p_move rfl) ?_
          refine AO.p rfl (p_move rfl) ?_
          have S230 := S222.front 4 rfl
          have S231 := S230.front 4 rfl
          obtain ⟨⟨x232, rs233⟩, h234, hd235⟩ := bnd_some hd229
          obtain ⟨_, G241, hc240, T236, rfl, S242, t237, s238, l239⟩ := W_laws_markInt64SS fu G220 p143 c144 T147 rs140 t148 B146 s149 1 ((S231).join2.onodup (k := 0) rfl) ((S231).join2.omem (k := 0) rfl) x232 rs233 h234
          have S243 := St.callM (A := [oseg p143 (tcells T147), tseg T147]) S231 S242 (by simp)
          refine AO.c rfl (o_call (vs := [.slice p143 rs140.length c144, .int .i64 1]) rfl Try.call27 hc240) ?_
          refine AO.p rfl (p_assign rfl) ?_
          refine AO.nil ?_
          refine AX.seq ?_
          obtain ⟨r258, hb259, hd260⟩ := bnd_some hd235
          refine AX.cut (fun t' H' => ∃ (b257 : Bool), b257 = r258 ∧ St [] H H' [F128, oseg p158 (tcells T162), tseg T162] ∧ PTw F128 p129 c130 T131 ∧ Am.Sub [(0, .int .i64 a0), (1, .slice p_a1 a1.length c_a1), (2, .int .i64 a2), (8, .slice p129 rs124.length c130), (9, .int .i64 x125), (11, .slice p158 rs154.length c159), (69, .bool b257)] t') ?_ ?_
          · skip
            refine AX.region ?_
            refine AO.p rfl (p_move rfl) ?_
            refine AO.p rfl (p_lss rfl rfl) ?_
            refine AO.p rfl (p_move rfl) ?_
            refine AO.cases (d := 59) rfl (fun c261 => ?_) (fun c261 => ?_)
            · have hd262 := bif_t c261 hb259
              refine AO.gn rfl rfl rfl ?_
              refine AO.gn rfl rfl rfl ?_
              refine AO.gn rfl rfl rfl ?_
              refine AO.gn rfl rfl rfl ?_
              refine AO.p rfl (p_pickT rfl rfl) ?_
              refine AO.p rfl (p_move rfl) ?_
              refine AO.gn rfl rfl rfl ?_
              refine AO.gn rfl rfl rfl ?_
              refine AO.gn rfl rfl rfl ?_
              refine AO.p rfl (p_pickT rfl rfl) ?_
              refine AO.nil ?_
              have S263 := S243.front 6 rfl
              have S264 := S263.front 6 rfl
              have S265 := S264.front 6 rfl
              have S266 := S265.keep 3
              exact ⟨true, (some_inj hd262), S266, hv177, Sub.cons' rfl rfl (Sub.cons' rfl rfl (Sub.cons' rfl rfl (Sub.cons' rfl rfl (Sub.cons' rfl rfl (Sub.cons' rfl rfl (Sub.cons' rfl rfl (Sub.nil _)))))))⟩
            · have hd267 := bif_f c261 hb259
              refine AO.gp rfl rfl rfl (p_move rfl) ?_
              refine AO.gp rfl rfl rfl (p_move rfl) ?_
              obtain ⟨b268, h269, hd270⟩ := bnd_some hd267
              refine AO.gc rfl rfl rfl (o_call (vs := [.slice p158 rs154.length c159, .slice p129 rs124.length c130]) rfl Try.call26 (W_laws_eqInt64SS fu G241 p158 c159 T162 rs154 t163 (S243.oview (k := 5) rfl B161 (tc_len1 t163 rfl)) (S243.oviewT (k := 6) rfl s164) p129 c130 T131 rs124 t132 (S243.ptwview (k := 4) rfl hv177 (tlen t132)) (S243.prwview (k := 4) rfl (hv177).rs) b268 h269)) ?_
              refine AO.gp rfl rfl rfl (p_not rfl) ?_
              refine AO.p rfl (p_pickF rfl rfl) ?_
              refine AO.p rfl (p_move rfl) ?_
              refine AO.cases (d := 65) rfl (fun c272 => ?_) (fun c272 => ?_)
              · have hd273 := bif_t c272 hd270
                refine AO.gn rfl rfl rfl ?_
                refine AO.gn rfl rfl rfl ?_
                refine AO.gn rfl rfl rfl ?_
                refine AO.p rfl (p_pickT rfl rfl) ?_
                refine AO.nil ?_
                have S274 := S243.front 6 rfl
                have S275 := S274.front 6 rfl
                have S276 := S275.front 6 rfl
                have S277 := S276.keep 3
                exact ⟨true, (some_inj hd273), S277, hv177, Sub.cons' rfl rfl (Sub.cons' rfl rfl (Sub.cons' rfl rfl (Sub.cons' rfl rfl (Sub.cons' rfl rfl (Sub.cons' rfl rfl (Sub.cons' rfl rfl (Sub.nil _)))))))⟩
              · have hd278 := bif_f c272 hd270
                refine AO.gp rfl rfl rfl (p_move rfl) ?_
                refine AO.gp rfl rfl rfl (p_move rfl) ?_
                refine AO.gp rfl rfl rfl (p_neq rfl rfl) ?_
                refine AO.p rfl (p_pickF rfl rfl) ?_
                refine AO.nil ?_
                have S279 := S243.front 6 rfl
                have S280 := S279.front 6 rfl
                have S281 := S280.front 6 rfl
                have S282 := S281.keep 3
                exact ⟨(!decide (x155 = x125)), (some_inj hd278), S282, hv177, Sub.cons' rfl rfl (Sub.cons' rfl rfl (Sub.cons' rfl rfl (Sub.cons' rfl rfl (Sub.cons' rfl rfl (Sub.cons' rfl rfl (Sub.cons' rfl rfl (Sub.nil _)))))))⟩
          · rintro t' G284 ⟨b257, rfl, S283, hv255, hsub285⟩
            refine AX.sub hsub285 ?_
            refine AX.cond rfl (fun c286 => ?_) (fun c286 => ?_)
            · have hd287 := bif_t c286 hd260
              refine AX.seq ?_
              refine AX.region ?_
              refine AO.p rfl (p_assign rfl) ?_
              refine AO.nil ?_
              refine AX.ret ?_
              obtain rfl := some_inj hd287
              exact ⟨.inr rfl, _, res1 rfl (rv_tmp rfl), rfl, (flatB_ok rfl), S283.hold⟩
            · have hd288 := bif_f c286 hd260
              refine AX.skip ?_
              refine AX.seq ?_
              refine AX.region ?_
              refine AO.p rfl (p_assign rfl) ?_
              refine AO.nil ?_
              refine AX.seq ?_
              refine AX.region ?_
              refine AO.p rfl (p_move rfl) ?_
              refine AO.p rfl (p_move rfl) ?_
              have S289 := S283.front 2 rfl
              have S290 := S289.front 2 rfl
              obtain ⟨⟨x291, rs292⟩, h293, hd294⟩ := bnd_some hd288
              obtain ⟨_, G300, hc299, T295, rfl, S301, t296, s297, l298⟩ := W_laws_markInt64SS fu G284 p158 c159 T162 rs154 t163 B161 s164 1 ((S290).join2.onodup (k := 0) rfl) ((S290).join2.omem (k := 0) rfl) x291 rs292 h293
              have S302 := St.callM (A := [oseg p158 (tcells T162), tseg T162]) S290 S301 (by simp)
              refine AO.c rfl (o_call (vs := [.slice p158 rs154.length c159, .int .i64 1]) rfl Try.call27 hc299) ?_
              refine AO.p rfl (p_assign rfl) ?_
              refine AO.nil ?_
              refine AX.seq ?_
              refine AX.region ?_
              refine AO.p rfl (p_assign rfl) ?_
              refine AO.nil ?_
              refine AX.seq ?_
              refine AX.region ?_
              refine AO.p rfl (p_move rfl) ?_
              refine AO.p rfl (p_move rfl) ?_
              obtain ⟨x303, h304, hd305⟩ := bnd_some hd294
              refine AO.c rfl (o_call (vs := [.slice p158 rs154.length c159, .int .i64 1]) rfl Try.call28 (by have h' := W_laws_heldInt64SS fu G300 p158 c159 T295 rs292 t296 (by rw [show List.length rs292 = rs154.length from (Eq.trans l298 rfl)]; exact (S302.oview (k := 0) rfl B161 (tc_len1 t296 (Eq.trans l298 rfl)))) (S302.oviewT (k := 1) rfl s297) 1 x303 h304; rw [show List.length rs292 = rs154.length from (Eq.trans l298 rfl)] at h'; exact h')) ?_
              refine AO.p rfl (p_assign rfl) ?_
              refine AO.nil ?_
              refine AX.seq ?_
              refine AX.seq ?_
              refine AX.region ?_
              refine AO.p rfl (p_move rfl) ?_
              refine AO.p rfl (p_lss rfl rfl) ?_
              refine AO.nil ?_
              refine AX.cond rfl (fun c307 => ?_) (fun c307 => ?_)
              · have hd308 := bif_t c307 hd305
                refine AX.seq ?_
                refine AX.region ?_
                refine AO.p rfl (p_assign rfl) ?_
                refine AO.nil ?_
                refine AX.ret ?_
                obtain rfl := some_inj hd308
                exact ⟨.inr rfl, _, res1 rfl (rv_tmp rfl), rfl, (flatB_ok rfl), S302.hold⟩
              · have hd309 := bif_f c307 hd305
                refine AX.skip ?_
                refine AX.seq ?_
                refine AX.seq ?_
                refine AX.region ?_
                refine AO.p rfl (p_move rfl) ?_
                refine AO.p rfl (p_move rfl) ?_
                refine AO.p rfl (p_neq rfl rfl) ?_
                refine AO.nil ?_
                refine AX.cond rfl (fun c310 => ?_) (fun c310 => ?_)
                · have hd311 := bif_t c310 hd309
                  refine AX.seq ?_
                  refine AX.region ?_
                  refine AO.p rfl (p_assign rfl) ?_
                  refine AO.nil ?_
                  refine AX.ret ?_
                  obtain rfl := some_inj hd311
                  exact ⟨.inr rfl, _, res1 rfl (rv_tmp rfl), rfl, (flatB_ok rfl), S302.hold⟩
                · have hd312 := bif_f c310 hd309
                  refine AX.skip ?_
                  refine AX.seq ?_
                  refine AX.region ?_
                  refine AO.p rfl (p_move rfl) ?_
                  refine AO.p rfl (p_move rfl) ?_
                  obtain ⟨rs313, h314, hd315⟩ := bnd_some hd312
                  obtain ⟨_, G324, hc323, p316, c317, T320, rfl, S325, B319, t321, s322⟩ := W_laws_toInt64SS fu G300 p_a1 c_a1 T_a1 a1 t_a1 (S302.view v_a1) (S302.tview w_a1) rs313 h314
                  have S326 := S302.call S325
                  refine AO.c rfl (o_call (vs := [.slice p_a1 a1.length c_a1]) rfl Try.call31 hc323) ?_
                  refine AO.p rfl (p_move rfl) ?_
                  obtain ⟨⟨rs327, x328⟩, h329, hd330⟩ := bnd_some hd315
                  obtain ⟨_, G339, hc338, p331, c332, T335, rfl, S340, B334, t336, s337⟩ := W_impl_MultipleOf fu G324 a0 p316 c317 T320 rs313 t321 (S326.oview (k := 0) rfl B319 (tc_len1 t321 rfl)) (S326.oviewT (k := 1) rfl s322) a2 rs327 x328 h329
                  have S341 := S326.call S340
                  refine AO.c rfl (o_call (vs := [.int .i64 a0, .slice p316 rs313.length c317, .int .i64 a2]) rfl Try.call32 hc338) ?_
                  refine AO.p rfl (p_move rfl) ?_
                  refine AO.p rfl (p_extract rfl rfl) ?_
                  refine AO.p rfl (p_extract rfl rfl) ?_
                  refine AO.p rfl (p_assign rfl) ?_
                  refine AO.p rfl (p_assign rfl) ?_
                  refine AO.nil ?_
                  refine AX.seq ?_
                  obtain ⟨r351, hb352, hd353⟩ := bnd_some hd330
                  refine AX.cut (fun t' H' => ∃ (b350 : Bool), b350 = r351 ∧ St [] H H' [F128, oseg p158 (tcells T295), tseg T295] ∧ Am.Sub [(11, .slice p158 rs154.length c159), (14, .int .i64 x291), (97, .bool b350)] t') ?_ ?_
                  · skip
                    refine AX.region ?_
                    refine AO.p rfl (p_move rfl) ?_
                    refine AO.p rfl (p_move rfl) ?_
                    obtain ⟨b354, h355, hd356⟩ := bnd_some hb352
                    refine AO.c rfl (o_call (vs := [.slice p331 rs327.length c332, .slice p129 rs124.length c130]) rfl Try.call26 (W_laws_eqInt64SS fu G339 p331 c332 T335 rs327 t336 (S341.oview (k := 0) rfl B334 (tc_len1 t336 rfl)) (S341.oviewT (k := 1) rfl s337) p129 c130 T131 rs124 t132 (S341.ptwview (k := 6) rfl hv255 (tlen t132)) (S341.prwview (k := 6) rfl (hv255).rs) b354 h355)) ?_
                    refine AO.p rfl (p_not rfl) ?_
                    refine AO.p rfl (p_move rfl) ?_
                    refine AO.cases (d := 93) rfl (fun c358 => ?_) (fun c358 => ?_)
                    · have hd359 := bif_t c358 hd356
                      refine AO.gn rfl rfl rfl ?_
                      refine AO.gn rfl rfl rfl ?_
                      refine AO.gn rfl rfl rfl ?_
                      refine AO.p rfl (p_pickT rfl rfl) ?_
                      refine AO.nil ?_
                      have S360 := S341.front 5 rfl
                      have S361 := S360.front 5 rfl
                      have S362 := S361.front 6 rfl
                      have S363 := S362.keep 3
                      exact ⟨true, (some_inj hd359), S363, Sub.cons' rfl rfl (Sub.cons' rfl rfl (Sub.cons' rfl rfl (Sub.nil _)))⟩
                    · have hd364 := bif_f c358 hd356
                      refine AO.gp rfl rfl rfl (p_move rfl) ?_
                      refine AO.gp rfl rfl rfl (p_move rfl) ?_
                      refine AO.gp rfl rfl rfl (p_neq rfl rfl) ?_
                      refine AO.p rfl (p_pickF rfl rfl) ?_
                      refine AO.nil ?_
                      have S365 := S341.front 5 rfl
                      have S366 := S365.front 5 rfl
                      have S367 := S366.front 6 rfl
                      have S368 := S367.keep 3
                      exact ⟨(!decide (x328 = x125)), (some_inj hd364), S368, Sub.cons' rfl rfl (Sub.cons' rfl rfl (Sub.cons' rfl rfl (Sub.nil _)))⟩
                  · rintro t' G370 ⟨b350, rfl, S369, hsub371⟩
                    refine AX.sub hsub371 ?_
                    refine AX.cond rfl (fun c372 => ?_) (fun c372 => ?_)
                    · have hd373 := bif_t c372 hd353
                      refine AX.seq ?_
                      refine AX.region ?_
                      refine AO.p rfl (p_assign rfl) ?_
                      refine AO.nil ?_
                      refine AX.ret ?_
                      obtain rfl := some_inj hd373
                      exact ⟨.inr rfl, _, res1 rfl (rv_tmp rfl), rfl, (flatB_ok rfl), S369.hold⟩
                    · have hd374 := bif_f c372 hd353
                      refine AX.skip ?_
                      refine AX.seq ?_
                      refine AX.region ?_
                      refine AO.p rfl (p_assign rfl) ?_
                      refine AO.nil ?_
                      refine AX.seq ?_
                      refine AX.region ?_
                      refine AO.p rfl (p_move rfl) ?_
                      refine AO.p rfl (p_move rfl) ?_
                      obtain ⟨x375, h376, hd377⟩ := bnd_some hd374
                      refine AO.c rfl (o_call (vs := [.slice p158 rs154.length c159, .int .i64 1]) rfl Try.call28 (by have h' := W_laws_heldInt64SS fu G370 p158 c159 T295 rs292 t296 (by rw [show List.length rs292 = rs154.length from (Eq.trans l298 rfl)]; exact (S369.oview (k := 1) rfl B161 (tc_len1 t296 (Eq.trans l298 rfl)))) (S369.oviewT (k := 2) rfl s297) 1 x375 h376; rw [show List.length rs292 = rs154.length from (Eq.trans l298 rfl)] at h'; exact h')) ?_
                      refine AO.p rfl (p_assign rfl) ?_
                      refine AO.nil ?_
                      refine AX.seq ?_
                      refine AX.seq ?_
                      refine AX.region ?_
                      refine AO.p rfl (p_move rfl) ?_
                      refine AO.p rfl (p_lss rfl rfl) ?_
                      refine AO.nil ?_
                      refine AX.cond rfl (fun c379 => ?_) (fun c379 => ?_)
                      · have hd380 := bif_t c379 hd377
                        refine AX.seq ?_
                        refine AX.region ?_
                        refine AO.p rfl (p_assign rfl) ?_
                        refine AO.nil ?_
                        refine AX.ret ?_
                        obtain rfl := some_inj hd380
                        exact ⟨.inr rfl, _, res1 rfl (rv_tmp rfl), rfl, (flatB_ok rfl), S369.hold⟩
                      · have hd381 := bif_f c379 hd377
                        refine AX.skip ?_
                        refine AX.seq ?_
                        refine AX.seq ?_
                        refine AX.region ?_
                        refine AO.p rfl (p_move rfl) ?_
                        refine AO.p rfl (p_move rfl) ?_
                        refine AO.p rfl (p_neq rfl rfl) ?_
                        refine AO.nil ?_
                        refine AX.cond rfl (fun c382 => ?_) (fun c382 => ?_)
                        · have hd383 := bif_t c382 hd381
                          refine AX.seq ?_
                          refine AX.region ?_
                          refine AO.p rfl (p_assign rfl) ?_
                          refine AO.nil ?_
                          refine AX.ret ?_
                          obtain rfl := some_inj hd383
                          exact ⟨.inr rfl, _, res1 rfl (rv_tmp rfl), rfl, (flatB_ok rfl), S369.hold⟩
                        · have hd384 := bif_f c382 hd381
                          refine AX.skip ?_
                          refine AX.seq ?_
                          refine AX.region ?_
                          refine AO.p rfl (p_assign rfl) ?_
                          refine AO.nil ?_
                          refine AX.ret ?_
                          obtain rfl := some_inj hd384
                          exact ⟨.inr rfl, _, res1 rfl (rv_tmp rfl), rfl, (flatB_ok rfl), S369.hold⟩

end Go.Proofs.Ytdafmafigcljkaa
