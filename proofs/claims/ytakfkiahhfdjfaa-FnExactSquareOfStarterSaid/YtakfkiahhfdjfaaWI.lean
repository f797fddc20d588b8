/-
  The program computes that, printed by a program. No condition.
-/
import Derived.Test.YtakfkiahhfdjfaaDI
import Derived.Test.YtakfkiahhfdjfaaWC
import Derived.Test.YtakfkiahhfdjfaaProg
import Derived.KernelRfl
namespace Go.Proofs.Ytakfkiahhfdjfaa
open Go Go.RowKit Am
set_option linter.unusedVariables false
set_option linter.unusedSimpArgs false
set_option maxRecDepth 20000
set_option maxHeartbeats 4000000 in
theorem W_impl_square (fu : Nat) (H : AHeap) (a0 : Int) (r0 : List (List Int)) (hd : D_impl_square fu a0 = some r0) : ∃ v G', ACall Try.prog 118 [.int .i64 a0] H v G' ∧ ∃ (p_r0 : Option Addr) (c_r0 : Nat) (T_r0 : Tb), (v = .slice p_r0 r0.length c_r0) ∧ St [] H G' [oseg p_r0 (tcells T_r0), tseg T_r0] ∧ Sb p_r0 r0.length c_r0 1 ∧ trows T_r0 = r0 ∧ TSb T_r0 := by
  refine ACall.bodyX (args := [.int .i64 a0]) (N := 15) [(0, .int .i64 a0)] (fun v G' => ∃ (p_r0 : Option Addr) (c_r0 : Nat) (T_r0 : Tb), (v = .slice p_r0 r0.length c_r0) ∧ St [] H G' [oseg p_r0 (tcells T_r0), tseg T_r0] ∧ Sb p_r0 r0.length c_r0 1 ∧ trows T_r0 = r0 ∧ TSb T_r0) Try.func118 rfl rfl rfl rfl ?_
  unfold D_impl_square at hd
  have S0 : St [] H H [] := St.nil H
  refine AX.seq ?_
  refine AX.region ?_
  refine AO.p rfl (p_assign rfl) ?_
  refine AO.nil ?_
  refine AX.seq ?_
  refine AX.region ?_
  obtain ⟨G100, i101, hii101, hHG100, S102⟩ := S0.new (AObj.row false (tcells []))
  have S102t := S102.nilseg 1
  refine AO.c rfl (s_build0 (i := i101) Try.underlying22 Try.sizeOf34 hii101 hHG100) ?_
  refine AO.p rfl (p_assign rfl) ?_
  refine AO.nil ?_
  refine AX.seq ?_
  refine AX.seq ?_
  refine AX.region ?_
  refine AO.p rfl (p_move rfl) ?_
  refine AO.p rfl (p_move rfl) ?_
  refine AO.nil ?_
  obtain ⟨r209, hl210, hd211⟩ := bnd_some hd
  refine AX.cutS (fun t' H' => ∃ (rs207 : List (List Int)) (p205 : Option Addr) (c206 : Nat) (T208 : Tb), rs207 = r209 ∧ St [] H H' [oseg p205 (tcells T208), tseg T208] ∧ trows T208 = rs207 ∧ TSb T208 ∧ Sb p205 (rs207.length) c206 1 ∧ Am.Sub [(3, .slice p205 rs207.length c206)] t') ?_ ?_
  · refine AX.block ?_
    refine AX.loopF (fun s' t' H' => ∃ (rs172 : List (List Int)) (x174 : Int) (p170 : Option Addr) (c171 : Nat) (T173 : Tb), (rs172, x174) = s' ∧ St [] H H' [oseg p170 (tcells T173), tseg T173] ∧ trows T173 = rs172 ∧ TSb T173 ∧ Sb p170 (rs172.length) c171 1 ∧ Am.Sub [(0, .int .i64 a0), (3, .slice p170 rs172.length c171), (5, .int .i64 a0), (6, .int .i64 x174)] t') hl210 ?_ ?_
    · skip
      have S212 := S102t.front 1 rfl
      have S213 := S212.front 1 rfl
      exact ⟨[], 0, (some (Addr.mk i101 0 none)), 0, [], rfl, S213, rfl, TSb.nil, (Sb.lit (n := 0) (by decide)), Sub.cons' rfl rfl (Sub.cons' rfl rfl (Sub.cons' rfl rfl (Sub.cons' rfl rfl (Sub.nil _))))⟩
    · rintro n214 _ t' G218 ⟨rs172, x174, p170, c171, T173, rfl, S217, tT173, sT173, Bo169, hsub219⟩ o220 ho215 hk216
      refine AX.sub hsub219 ?_
      unfold D_impl_square_s0 at ho215
      refine AX.seq ?_
      refine AX.region ?_
      refine AO.p rfl (p_lss rfl rfl) ?_
      refine AO.nil ?_
      refine AX.seq ?_
      refine AX.cond rfl (fun c221 => ?_) (fun c221 => ?_)
      · have hd222 := bif_t c221 ho215
        refine AX.skip ?_
        refine AX.seq ?_
        refine AX.block ?_
        refine AX.region ?_
        refine AO.p rfl (p_move rfl) ?_
        refine AO.p rfl (p_move rfl) ?_
        obtain ⟨k223, hd224⟩ := chk_some hd222
        obtain ⟨G225, i226, hii226, hHG225, S227⟩ := S217.new (AObj.row false (ints (List.replicate a0.toNat 0)))
        refine AO.c rfl (s_makeIntsE (i := i226) (by_ := 8) Try.underlying34 Try.typeInfo2 Try.sizeOf2 Try.zeroValue2 rfl rfl rfl rfl rfl k223 hii226 hHG225) ?_
        obtain ⟨G229, i230, hii230, hHG229, S231⟩ := S227.new (AObj.row false (tcells [((some (Addr.mk i226 0 none)), a0.toNat, (List.replicate a0.toNat 0))]))
        have S233 := (S231.front 1 rfl).tone (some (Addr.mk i226 0 none)) a0.toNat (List.replicate a0.toNat 0) rfl
        refine AO.c rfl (s_buildT1 (i := i230) (X := [((some (Addr.mk i226 0 none)), a0.toNat, (List.replicate a0.toNat 0))]) (n := a0.toNat) len_rep Try.underlying22 Try.sizeOf34 Try.zeroValue34 rfl rfl hii230 hHG229) ?_
        obtain ⟨k234, hd235⟩ := chk_some hd224
        obtain ⟨p236, c237, G238, haG238, S239, Bp236⟩ := S233.app (k := 2) rfl Bo169 (tcells [((some (Addr.mk i226 0 none)), a0.toNat, (List.replicate a0.toNat 0))]) 1 (tc_len1 rfl rfl)
        have S240 := S239.cellsEq (k := 2) (us' := tcells (T173 ++ [((some (Addr.mk i226 0 none)), a0.toNat, (List.replicate a0.toNat 0))])) (tcells_app _ _).symm rfl
        have BS240 : Sb p236 ((rs172 ++ [(List.replicate a0.toNat 0)]).length) c237 1 := (show rs172.length + 1 = (rs172 ++ [(List.replicate a0.toNat 0)]).length from len_app (a := rs172) (b := [(List.replicate a0.toNat 0)]) rfl rfl) ▸ Bp236
        have S241 := S240.front 0 rfl
        have S242 := (S241.front 3 rfl).tmerge
        have S243 := S242.drop 1 rfl
        refine AO.c rfl (s_app (by_ := 24) (us := tcells T173) (vs := tcells [((some (Addr.mk i226 0 none)), a0.toNat, (List.replicate a0.toNat 0))]) Try.underlying22 Try.underlying22 Try.typeInfo34 Try.sizeOf34 Try.zeroValue34 rfl rfl rfl rfl rfl rfl rfl (S233.buf (k := 2) rfl Bo169 (tc_len1 tT173 rfl)) (S233.oview (k := 1) rfl (Sb.lit (n := 1) (by decide)) (tc_len1 rfl rfl)) (tc_len1 rfl rfl) tcells_one k234 haG238 (show rs172.length + 1 = (rs172 ++ [(List.replicate a0.toNat 0)]).length from len_app (a := rs172) (b := [(List.replicate a0.toNat 0)]) rfl rfl)) ?_
        refine AO.p rfl (p_assign rfl) ?_
        refine AO.nil ?_
        refine AX.region ?_
        obtain ⟨k244, hd245⟩ := chk_some hd235
        refine AO.p rfl (p_addE rfl rfl k244) ?_
        refine AO.p rfl (p_move rfl) ?_
        refine AO.nil ?_
        obtain rfl := some_inj hd245
        have S247 := S243.front 0 rfl
        have S248 := S247.front 1 rfl
        exact ⟨((rs172 ++ [(List.replicate a0.toNat 0)]), x174 + 1), hk216, (rs172 ++ [(List.replicate a0.toNat 0)]), (x174 + 1), p236, c237, (T173 ++ [((some (Addr.mk i226 0 none)), a0.toNat, (List.replicate a0.toNat 0))]), rfl, S248, (trows_apps tT173 rfl), (TSb.app sT173 (TSb.one (sb_len len_rep (Sb.lit (mkcap k223))))), BS240, Sub.cons' rfl rfl (Sub.cons' rfl rfl (Sub.cons' rfl rfl (Sub.cons' rfl rfl (Sub.nil _))))⟩
      · have hd249 := bif_f c221 ho215
        refine AX.exit ?_
        obtain rfl := some_inj hd249
        have S250 := S217.front 1 rfl
        have S251 := S250.front 1 rfl
        exact ⟨rs172, p170, c171, T173, hk216, S251, tT173, sT173, Bo169, Sub.cons' rfl rfl (Sub.nil _)⟩
  · rintro t' G253 ⟨rs207, p205, c206, T208, rfl, S252, tT208, sT208, Bo204, hsub254⟩
    refine ⟨_, hsub254, ?_⟩
    refine AX.seq ?_
    refine AX.region ?_
    refine AO.p rfl (p_move rfl) ?_
    refine AO.p rfl (p_assign rfl) ?_
    refine AO.nil ?_
    refine AX.ret ?_
    obtain rfl := some_inj hd211
    have S255 := S252.front 1 rfl
    have S256 := S255.front 1 rfl
    exact ⟨.inr rfl, _, res1 rfl (rv_tmp rfl), p205, c206, T208, rfl, S256, Bo204, tT208, sT208⟩

set_option maxHeartbeats 4000000 in
theorem W_impl_emptySquare (fu : Nat) (H : AHeap) (a0 : Int) (r0 : Int) (r1 : List (List Int)) (hd : D_impl_emptySquare fu a0 = some (r0, r1)) : ∃ v G', ACall Try.prog 84 [.int .i64 a0] H v G' ∧ ∃ (p_r1 : Option Addr) (c_r1 : Nat) (T_r1 : Tb), (v = .agg [.int .i64 r0, .slice p_r1 r1.length c_r1].toArray) ∧ St [] H G' [oseg p_r1 (tcells T_r1), tseg T_r1] ∧ Sb p_r1 r1.length c_r1 1 ∧ trows T_r1 = r1 ∧ TSb T_r1 := by
  refine ACall.bodyX (args := [.int .i64 a0]) (N := 29) [(0, .int .i64 a0)] (fun v G' => ∃ (p_r1 : Option Addr) (c_r1 : Nat) (T_r1 : Tb), (v = .agg [.int .i64 r0, .slice p_r1 r1.length c_r1].toArray) ∧ St [] H G' [oseg p_r1 (tcells T_r1), tseg T_r1] ∧ Sb p_r1 r1.length c_r1 1 ∧ trows T_r1 = r1 ∧ TSb T_r1) Try.func84 rfl rfl rfl rfl ?_
  unfold D_impl_emptySquare at hd
  have S0 : St [] H H [] := St.nil H
  refine AX.seq ?_
  refine AX.region ?_
  obtain ⟨G100, i101, hii101, hHG100, S102⟩ := S0.new (AObj.row false ([.int .i64 0, .slice none 0 0]))
  refine AO.c rfl (s_alloc (i := i101) (cs := [.int .i64 0, .slice none 0 0]) Try.zeroValue53 rfl rfl hii101 hHG100) ?_
  refine AO.nil ?_
  refine AX.seq ?_
  refine AX.region ?_
  refine AO.p rfl (p_move rfl) ?_
  refine AO.p rfl (p_move rfl) ?_
  obtain ⟨rs104, h105, hd106⟩ := bnd_some hd
  obtain ⟨_, G115, hc114, p107, c108, T111, rfl, S116, B110, t112, s113⟩ := W_impl_square fu G100 a0 rs104 h105
  have S117 := S102.call S116
  refine AO.c rfl (o_call (vs := [.int .i64 a0]) rfl Try.call118 hc114) ?_
  refine AO.p rfl (p_build2 (vs := [(0, .int .i64 a0), (1, .slice p107 rs104.length c108)]) (cs := [.int .i64 a0, .slice p107 rs104.length c108]) Try.underlying53 rfl rfl rfl Try.sizeOf2 Try.sizeOf22 Try.zeroValue53 rfl rfl rfl rfl rfl) ?_
  obtain ⟨G118, i119, hii119, hHG118, S120⟩ := S117.new (AObj.row false ([.int .i64 0, .slice none 0 0]))
  refine AO.c rfl (s_alloc (i := i119) (cs := [.int .i64 0, .slice none 0 0]) Try.zeroValue53 rfl rfl hii119 hHG118) ?_
  obtain ⟨G122, hHG122, S123⟩ := S120.set (k := 0) (i := i119) rfl (AObj.row false ([.int .i64 a0, .slice p107 rs104.length c108]))
  refine AO.s (s_storeAll (vs := [.int .i64 a0, .slice p107 rs104.length c108]) Try.sizeOf53 rfl rfl (ones_list rfl) (S120.get (k := 0) rfl) rfl rfl hHG122) ?_
  refine AO.nil ?_
  refine AX.seq ?_
  refine AX.seq ?_
  refine AX.region ?_
  refine AO.p rfl (s_fieldAddr Try.underlying53 rfl Try.sizeOf22 (by decide) rfl rfl) ?_
  refine AO.c rfl (s_load Try.isAgg22 rfl (row_cell (S123.get (k := 0) rfl) rfl)) ?_
  refine AO.p rfl (p_len_slice rfl Try.underlying22) ?_
  refine AO.p rfl (p_move rfl) ?_
  refine AO.nil ?_
  obtain ⟨r477, hl478, hd479⟩ := bnd_some hd106
  refine AX.cutS (fun t' H' => ∃ (rs475 : List (List Int)) (T476 : Tb), rs475 = r477 ∧ St [] H H' [[(i101, AObj.row false ([.int .i64 0, .slice none 0 0]))], [(i119, AObj.row false ([.int .i64 a0, .slice p107 rs104.length c108]))], oseg p107 (tcells T476), tseg T476] ∧ rs475.length = rs104.length ∧ trows T476 = rs475 ∧ TSb T476 ∧ Am.Sub [(2, .pointer (some ⟨i101, 0, none⟩)), (3, .pointer (some ⟨i119, 0, none⟩))] t') ?_ ?_
  · refine AX.block ?_
    refine AX.loopF (fun s' t' H' => ∃ (rs358 : List (List Int)) (x360 : Int) (T359 : Tb), (rs358, x360) = s' ∧ St [] H H' [[(i101, AObj.row false ([.int .i64 0, .slice none 0 0]))], [(i119, AObj.row false ([.int .i64 a0, .slice p107 rs104.length c108]))], oseg p107 (tcells T359), tseg T359] ∧ rs358.length = rs104.length ∧ trows T359 = rs358 ∧ TSb T359 ∧ Am.Sub [(2, .pointer (some ⟨i101, 0, none⟩)), (3, .pointer (some ⟨i119, 0, none⟩)), (12, .slice p107 rs104.length c108), (13, .int .i64 ((rs104.length : Nat) : Int)), (14, .int .i64 x360)] t') hl478 ?_ ?_
    · skip
      have S480 := S123.front 2 rfl
      have S481 := S480.front 2 rfl
      have S482 := S481.front 2 rfl
      have S483 := S482.front 3 rfl
      exact ⟨rs104, 0, T111, rfl, S483, rfl, t112, s113, Sub.cons' rfl rfl (Sub.cons' rfl rfl (Sub.cons' rfl rfl (Sub.cons' rfl rfl (Sub.cons' rfl rfl (Sub.nil _)))))⟩
    · rintro n484 _ t' G488 ⟨rs358, x360, T359, rfl, S487, lrs358, tT359, sT359, hsub489⟩ o490 ho485 hk486
      refine AX.sub hsub489 ?_
      unfold D_impl_emptySquare_s0 at ho485
      refine AX.seq ?_
      refine AX.region ?_
      refine AO.p rfl (p_lss rfl rfl) ?_
      refine AO.nil ?_
      refine AX.seq ?_
      refine AX.cond rfl (fun c491 => ?_) (fun c491 => ?_)
      · have hd492 := bif_t c491 ho485
        refine AX.skip ?_
        refine AX.seq ?_
        refine AX.block ?_
        refine AX.seq ?_
        refine AX.region ?_
        obtain ⟨k493, hd494⟩ := chk_some hd492
        refine AO.p rfl (s_indexV (q := x360.toNat) Try.underlying22 Try.sizeOf34 rfl (B110.at (inR_pos k493)) rfl k493 (z1 _)) ?_
        obtain ⟨p495, c496, e497, f498⟩ := tget tT359 (lt_len lrs358 (inR_lt k493))
        refine AO.c rfl (s_load Try.isAgg34 rfl (row_cell (S487.oat (k := 2) rfl (B110.at (inR_pos k493))) f498)) ?_
        refine AO.p rfl (p_assign rfl) ?_
        refine AO.nil ?_
        refine AX.seq ?_
        refine AX.region ?_
        refine AO.p rfl (p_move rfl) ?_
        refine AO.p rfl (p_len_slice rfl Try.underlying34) ?_
        refine AO.p rfl (p_move rfl) ?_
        refine AO.nil ?_
        obtain ⟨r560, hl561, hd562⟩ := bnd_some hd494
        refine AX.cutS (fun t' H' => ∃ (rs558 : List (List Int)) (T559 : Tb), rs558 = r560 ∧ St [] H H' [[(i101, AObj.row false ([.int .i64 0, .slice none 0 0]))], [(i119, AObj.row false ([.int .i64 a0, .slice p107 rs104.length c108]))], oseg p107 (tcells T559), tseg T559] ∧ rs558.length = rs104.length ∧ trows T559 = rs558 ∧ TSb T559 ∧ Am.Sub [(2, .pointer (some ⟨i101, 0, none⟩)), (3, .pointer (some ⟨i119, 0, none⟩)), (12, .slice p107 rs104.length c108), (13, .int .i64 ((rs104.length : Nat) : Int)), (14, .int .i64 x360)] t') ?_ ?_
        · refine AX.block ?_
          refine AX.loopF (fun s' t' H' => ∃ (rs538 : List (List Int)) (x541 : Int) (T539 : Tb), (rs538, x541) = s' ∧ St [] H H' [[(i101, AObj.row false ([.int .i64 0, .slice none 0 0]))], [(i119, AObj.row false ([.int .i64 a0, .slice p107 rs104.length c108]))], oseg p107 (tcells T539), tseg T539] ∧ rs538.length = rs104.length ∧ trows T539 = rs538 ∧ TSb T539 ∧ T539[x360.toNat]? = some (p495, c496, (rw_ rs538 x360.toNat)) ∧ (rw_ rs538 x360.toNat).length = (rw_ rs358 x360.toNat).length ∧ Am.Sub [(2, .pointer (some ⟨i101, 0, none⟩)), (3, .pointer (some ⟨i119, 0, none⟩)), (5, .slice p495 ((rw_ rs358 x360.toNat).length) c496), (12, .slice p107 rs104.length c108), (13, .int .i64 ((rs104.length : Nat) : Int)), (14, .int .i64 x360), (19, .int .i64 (((rw_ rs358 x360.toNat).length : Nat) : Int)), (20, .int .i64 x541)] t') hl561 ?_ ?_
          · skip
            have S563 := S487.front 3 rfl
            have S564 := S563.front 3 rfl
            have S565 := S564.front 3 rfl
            have S566 := S565.front 3 rfl
            exact ⟨rs358, 0, T359, rfl, S566, lrs358, tT359, sT359, (t_rw tT359 e497), (t_rwl (p := p495) (c := c496) tT359 e497 rfl), Sub.cons' rfl rfl (Sub.cons' rfl rfl (Sub.cons' rfl rfl (Sub.cons' rfl rfl (Sub.cons' rfl rfl (Sub.cons' rfl rfl (Sub.cons' rfl rfl (Sub.cons' rfl rfl (Sub.nil _))))))))⟩
          · rintro n567 _ t' G571 ⟨rs538, x541, T539, rfl, S570, lrs538, tT539, sT539, e540, le540, hsub572⟩ o573 ho568 hk569
            refine AX.sub hsub572 ?_
            unfold D_impl_emptySquare_s1 at ho568
            refine AX.seq ?_
            refine AX.region ?_
            refine AO.p rfl (p_lss rfl rfl) ?_
            refine AO.nil ?_
            refine AX.seq ?_
            refine AX.cond rfl (fun c574 => ?_) (fun c574 => ?_)
            · have hd575 := bif_t c574 ho568
              refine AX.skip ?_
              refine AX.seq ?_
              refine AX.block ?_
              refine AX.seq ?_
              refine AX.region ?_
              refine AO.p rfl (p_move rfl) ?_
              refine AO.p rfl (p_assign rfl) ?_
              refine AO.nil ?_
              refine AX.region ?_
              refine AO.p rfl (p_move rfl) ?_
              refine AO.p rfl (p_move rfl) ?_
              obtain ⟨k576, hd577⟩ := chk_some hd575
              refine AO.p rfl (s_indexV (q := off p495 + x541.toNat) Try.underlying34 Try.sizeOf2 rfl (((TVw.at (S570.oviewT (k := 3) rfl sT539) e540).len le540).p (ints_get (lt_len le540 (inR_lt k576)))) rfl k576 (o1 _ _)) ?_
              obtain ⟨G578, hHG578, S579⟩ := S570.tset (k := 3) rfl e540 (((TSb.at sT539 e540).len le540).at (inR_pos k576)) ((rw_ rs538 x360.toNat).set x541.toNat (-1))
              have S580 := S579.hdr (k := 2) (tcells_set (xs' := ((rw_ rs538 x360.toNat).set x541.toNat (-1))) e540 (len_set rfl)).symm rfl
              refine AO.s (s_storeO (o := off p495 + x541.toNat) (q := x541.toNat) (off0 (((TSb.at sT539 e540).len le540).at (inR_pos k576)) _) Try.sizeOf2 rfl rfl rfl (S570.tat (k := 3) rfl e540 (((TSb.at sT539 e540).len le540).at (inR_pos k576))) (lt_len ((ints_length _).trans le540) (inR_lt k576)) ((congrArg (fun l => List.set _ _ (AObj.row false l)) (ints_set _ _ _)).trans hHG578)) ?_
              refine AO.nil ?_
              refine AX.region ?_
              obtain ⟨k581, hd582⟩ := chk_some hd577
              refine AO.p rfl (p_addE rfl rfl k581) ?_
              refine AO.p rfl (p_move rfl) ?_
              refine AO.nil ?_
              obtain rfl := some_inj hd582
              have S584 := S580.front 3 rfl
              have S585 := S584.front 3 rfl
              have S586 := S585.front 3 rfl
              have S587 := S586.front 3 rfl
              exact ⟨((rs538.set x360.toNat ((rw_ rs538 x360.toNat).set x541.toNat (-1))), x541 + 1), hk569, (rs538.set x360.toNat ((rw_ rs538 x360.toNat).set x541.toNat (-1))), (x541 + 1), (T539.set x360.toNat (p495, c496, ((rw_ rs538 x360.toNat).set x541.toNat (-1)))), rfl, S587, (len_set lrs538), (trows_set' tT539), (TSb.set sT539 e540 (len_set rfl)), (t_rw (trows_set' tT539) (tset_same e540)), (t_rwl (p := p495) (c := c496) (trows_set' tT539) (tset_same e540) (len_set le540)), Sub.cons' rfl rfl (Sub.cons' rfl rfl (Sub.cons' rfl rfl (Sub.cons' rfl rfl (Sub.cons' rfl rfl (Sub.cons' rfl rfl (Sub.cons' rfl rfl (Sub.cons' rfl rfl (Sub.nil _))))))))⟩
            · have hd588 := bif_f c574 ho568
              refine AX.exit ?_
              obtain rfl := some_inj hd588
              have S589 := S570.front 3 rfl
              have S590 := S589.front 3 rfl
              have S591 := S590.front 3 rfl
              have S592 := S591.front 3 rfl
              exact ⟨rs538, T539, hk569, S592, lrs538, tT539, sT539, Sub.cons' rfl rfl (Sub.cons' rfl rfl (Sub.cons' rfl rfl (Sub.cons' rfl rfl (Sub.cons' rfl rfl (Sub.nil _)))))⟩
        · rintro t' G594 ⟨rs558, T559, rfl, S593, lrs558, tT559, sT559, hsub595⟩
          refine ⟨_, hsub595, ?_⟩
          refine AX.region ?_
          obtain ⟨k596, hd597⟩ := chk_some hd562
          refine AO.p rfl (p_addE rfl rfl k596) ?_
          refine AO.p rfl (p_move rfl) ?_
          refine AO.nil ?_
          obtain rfl := some_inj hd597
          have S599 := S593.front 3 rfl
          have S600 := S599.front 3 rfl
          have S601 := S600.front 3 rfl
          have S602 := S601.front 3 rfl
          exact ⟨(rs558, x360 + 1), hk486, rs558, (x360 + 1), T559, rfl, S602, lrs558, tT559, sT559, Sub.cons' rfl rfl (Sub.cons' rfl rfl (Sub.cons' rfl rfl (Sub.cons' rfl rfl (Sub.cons' rfl rfl (Sub.nil _)))))⟩
      · have hd603 := bif_f c491 ho485
        refine AX.exit ?_
        obtain rfl := some_inj hd603
        have S604 := S487.front 3 rfl
        have S605 := S604.front 3 rfl
        have S606 := S605.front 3 rfl
        have S607 := S606.front 3 rfl
        exact ⟨rs358, T359, hk486, S607, lrs358, tT359, sT359, Sub.cons' rfl rfl (Sub.cons' rfl rfl (Sub.nil _))⟩
  · rintro t' G609 ⟨rs475, T476, rfl, S608, lrs475, tT476, sT476, hsub610⟩
    refine ⟨_, hsub610, ?_⟩
    refine AX.seq ?_
    refine AX.region ?_
    refine AO.c rfl (s_loadN (vs := [.int .i64 a0, .slice p107 rs104.length c108]) Try.isAgg53 Try.sizeOf53 rfl rfl (row_cells (S608.get (k := 1) rfl))) ?_
    obtain ⟨G611, hHG611, S612⟩ := S608.set (k := 0) (i := i101) rfl (AObj.row false ([.int .i64 a0, .slice p107 rs104.length c108]))
    refine AO.s (s_storeAll (vs := [.int .i64 a0, .slice p107 rs104.length c108]) Try.sizeOf53 rfl rfl (ones_list rfl) (S608.get (k := 0) rfl) rfl rfl hHG611) ?_
    refine AO.nil ?_
    refine AX.ret ?_
    obtain ⟨rfl, rfl⟩ := Prod.mk.inj (some_inj hd479)
    have S614 := S612.front 3 rfl
    have S615 := S614.front 3 rfl
    have S616 := S615.keep 2
    exact ⟨.inr rfl, _, res1 rfl (rv_cell (vs := [.int .i64 a0, .slice p107 rs104.length c108]) rfl Try.isAgg53 Try.sizeOf53 rfl (row_cells (S612.get (k := 0) rfl))), p107, c108, T476, (by rw [show List.length rs475 = rs104.length from lrs475]), S616, (by rw [show List.length rs475 = rs104.length from lrs475]; exact B110), tT476, sT476⟩

set_option maxHeartbeats 4000000 in
theorem W_impl_Square_put (fu : Nat) (H : AHeap) (a0_0 : Int) (p_a0_1 : Option Addr) (c_a0_1 : Nat) (T_a0_1 : Tb) (a0_1 : List (List Int)) (t_a0_1 : trows T_a0_1 = a0_1) (s_a0_1 : Sb p_a0_1 a0_1.length c_a0_1 1) (z_a0_1 : TSb T_a0_1) (a1 : Int) (a2 : Int) (a3 : Int) (a4 : Int) (hn : ((oseg p_a0_1 (tcells T_a0_1) ++ (tseg T_a0_1)).map (·.1)).Nodup) (ho : ∀ x ∈ oseg p_a0_1 (tcells T_a0_1) ++ (tseg T_a0_1), x.1 < H.length ∧ hget H x.1 = x.2) (m_a0_1 : List (List Int)) (hd : D_impl_Square_put fu a0_0 a0_1 a1 a2 a3 a4 = some m_a0_1) : ∃ v G', ACall Try.prog 85 [.agg [.int .i64 a0_0, .slice p_a0_1 a0_1.length c_a0_1].toArray, .int .i64 a1, .int .i64 a2, .int .i64 a3, .int .i64 a4] H v G' ∧ ∃ (T_a0_1' : Tb), (v = .tuple #[]) ∧ St ((oseg p_a0_1 (tcells T_a0_1) ++ (tseg T_a0_1)).map (·.1)) H G' [oseg p_a0_1 (tcells T_a0_1'), tseg T_a0_1'] ∧ trows T_a0_1' = m_a0_1 ∧ TSb T_a0_1' ∧ m_a0_1.length = a0_1.length := by
  refine ACall.bodyX (args := [.agg [.int .i64 a0_0, .slice p_a0_1 a0_1.length c_a0_1].toArray, .int .i64 a1, .int .i64 a2, .int .i64 a3, .int .i64 a4]) (N := 25) [(0, .agg [.int .i64 a0_0, .slice p_a0_1 a0_1.length c_a0_1].toArray), (1, .int .i64 a1), (2, .int .i64 a2), (3, .int .i64 a3), (4, .int .i64 a4)] (fun v G' => ∃ (T_a0_1' : Tb), (v = .tuple #[]) ∧ St ((oseg p_a0_1 (tcells T_a0_1) ++ (tseg T_a0_1)).map (·.1)) H G' [oseg p_a0_1 (tcells T_a0_1'), tseg T_a0_1'] ∧ trows T_a0_1' = m_a0_1 ∧ TSb T_a0_1' ∧ m_a0_1.length = a0_1.length) Try.func85 rfl rfl rfl rfl ?_
  unfold D_impl_Square_put at hd
  have S0 : St ((oseg p_a0_1 (tcells T_a0_1) ++ (tseg T_a0_1)).map (·.1)) H H [oseg p_a0_1 (tcells T_a0_1), tseg T_a0_1] := (St.init (l := oseg p_a0_1 (tcells T_a0_1) ++ (tseg T_a0_1)) hn ho).same (by simp)
  refine AX.seq ?_
  refine AX.region ?_
  obtain ⟨G100, i101, hii101, hHG100, S102⟩ := S0.new (AObj.row false ([.int .i64 a0_0, .slice p_a0_1 a0_1.length c_a0_1]))
  refine AO.c rfl (s_box (i := i101) (cs := [.int .i64 a0_0, .slice p_a0_1 a0_1.length c_a0_1]) rfl hii101 rfl hHG100) ?_
  refine AO.nil ?_
  refine AX.region ?_
  refine AO.p rfl (s_fieldAddr Try.underlying53 rfl Try.sizeOf22 (by decide) rfl rfl) ?_
  refine AO.c rfl (s_load Try.isAgg22 rfl (row_cell (S102.get (k := 0) rfl) rfl)) ?_
  refine AO.p rfl (p_move rfl) ?_
  obtain ⟨k104, hd105⟩ := chk_some hd
  refine AO.p rfl (s_indexV (q := a1.toNat) Try.underlying22 Try.sizeOf34 rfl (s_a0_1.at (inR_pos k104)) rfl k104 (z1 _)) ?_
  obtain ⟨p106, c107, e108, f109⟩ := tget t_a0_1 (lt_len rfl (inR_lt k104))
  refine AO.c rfl (s_load Try.isAgg34 rfl (row_cell (S102.oat (k := 1) rfl (s_a0_1.at (inR_pos k104))) f109)) ?_
  refine AO.p rfl (p_move rfl) ?_
  refine AO.p rfl (p_move rfl) ?_
  refine AO.p rfl (p_move rfl) ?_
  refine AO.p rfl (p_min rfl rfl rfl) ?_
  obtain ⟨k110, hd111⟩ := chk_some hd105
  refine AO.p rfl (p_mulE rfl rfl k110) ?_
  refine AO.p rfl (p_move rfl) ?_
  refine AO.p rfl (p_move rfl) ?_
  refine AO.p rfl (p_max rfl rfl rfl) ?_
  obtain ⟨k112, hd113⟩ := chk_some hd111
  refine AO.p rfl (p_addE rfl rfl k112) ?_
  obtain ⟨k114, hd115⟩ := chk_some hd113
  refine AO.p rfl (s_indexV (q := off p106 + a2.toNat) Try.underlying34 Try.sizeOf2 rfl ((TVw.at (S102.oviewT (k := 2) rfl z_a0_1) e108).p (ints_get (lt_len rfl (inR_lt k114)))) rfl k114 (o1 _ _)) ?_
  obtain ⟨G116, hHG116, S117⟩ := S102.tset (k := 2) rfl e108 ((TSb.at z_a0_1 e108).at (inR_pos k114)) ((rw_ a0_1 a1.toNat).set a2.toNat (14 * (if a4 < a3 then a4 else a3) + (if a4 > a3 then a4 else a3)))
  have S118 := S117.hdr (k := 1) (tcells_set (xs' := ((rw_ a0_1 a1.toNat).set a2.toNat (14 * (if a4 < a3 then a4 else a3) + (if a4 > a3 then a4 else a3)))) e108 (len_set rfl)).symm rfl
  refine AO.s (s_storeO (o := off p106 + a2.toNat) (q := a2.toNat) (off0 ((TSb.at z_a0_1 e108).at (inR_pos k114)) _) Try.sizeOf2 rfl rfl rfl (S102.tat (k := 2) rfl e108 ((TSb.at z_a0_1 e108).at (inR_pos k114))) (lt_len (ints_length _) (inR_lt k114)) ((congrArg (fun l => List.set _ _ (AObj.row false l)) (ints_set _ _ _)).trans hHG116)) ?_
  refine AO.nil ?_
  obtain rfl := some_inj hd115
  have S119 := S118.front 2 rfl
  have S120 := S119.front 2 rfl
  have S121 := S120.keep 2
  exact ⟨.inl rfl, _, res_none rfl, (T_a0_1.set a1.toNat (p106, c107, ((rw_ a0_1 a1.toNat).set a2.toNat (14 * (if a4 < a3 then a4 else a3) + (if a4 > a3 then a4 else a3))))), rfl, S121, (trows_set' t_a0_1), (TSb.set z_a0_1 e108 (len_set rfl)), (len_set rfl)⟩

end Go.Proofs.Ytakfkiahhfdjfaa
