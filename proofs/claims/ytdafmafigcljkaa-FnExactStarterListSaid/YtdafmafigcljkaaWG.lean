/-
  The program computes that, printed by a program. No condition.
-/
import Derived.Test.YtdafmafigcljkaaDG
import Derived.Test.YtdafmafigcljkaaWE
import Derived.Test.YtdafmafigcljkaaProg
import Derived.KernelRfl
namespace Go.Proofs.Ytdafmafigcljkaa
open Go Go.RowKit Am
set_option linter.unusedVariables false
set_option linter.unusedSimpArgs false
set_option maxRecDepth 20000
set_option maxHeartbeats 4000000 in
theorem W_spec_l03Own (fu : Nat) (H : AHeap) (p_a0 : Option Addr) (c_a0 : Nat) (T_a0 : Tb) (a0 : List (List Int)) (t_a0 : trows T_a0 = a0) (v_a0 : Vw H p_a0 a0.length c_a0 (tcells T_a0)) (w_a0 : TVw H T_a0) (r0 : List (List Int)) (hd : D_spec_l03Own fu a0 = some r0) : ∃ v G', ACall Try.prog 57 [.slice p_a0 a0.length c_a0] H v G' ∧ ∃ (p_r0 : Option Addr) (c_r0 : Nat) (T_r0 : Tb), (v = .slice p_r0 r0.length c_r0) ∧ St [] H G' [oseg p_r0 (tcells T_r0), tseg T_r0] ∧ Sb p_r0 r0.length c_r0 1 ∧ trows T_r0 = r0 ∧ TSb T_r0 := by
  refine ACall.bodyX (args := [.slice p_a0 a0.length c_a0]) (N := 21) [(0, .slice p_a0 a0.length c_a0)] (fun v G' => ∃ (p_r0 : Option Addr) (c_r0 : Nat) (T_r0 : Tb), (v = .slice p_r0 r0.length c_r0) ∧ St [] H G' [oseg p_r0 (tcells T_r0), tseg T_r0] ∧ Sb p_r0 r0.length c_r0 1 ∧ trows T_r0 = r0 ∧ TSb T_r0) Try.func57 rfl rfl rfl rfl ?_
  unfold D_spec_l03Own at hd
  have S0 : St [] H H [] := St.nil H
  refine AX.seq ?_
  refine AX.region ?_
  refine AO.p rfl (p_assign rfl) ?_
  refine AO.nil ?_
  refine AX.seq ?_
  refine AX.region ?_
  obtain ⟨G100, i101, hii101, hHG100, S102⟩ := S0.new (AObj.row false (tcells []))
  have S102t := S102.nilseg 1
  refine AO.c rfl (s_build0 (i := i101) Try.underlying43 Try.sizeOf58 hii101 hHG100) ?_
  refine AO.p rfl (p_assign rfl) ?_
  refine AO.nil ?_
  refine AX.seq ?_
  refine AX.seq ?_
  refine AX.region ?_
  refine AO.p rfl (p_assign rfl) ?_
  refine AO.nil ?_
  obtain ⟨r242, hl243, hd244⟩ := bnd_some hd
  refine AX.cutS (fun t' H' => ∃ (rs240 : List (List Int)) (p238 : Option Addr) (c239 : Nat) (T241 : Tb), rs240 = r242 ∧ St [] H H' [oseg p238 (tcells T241), tseg T241] ∧ trows T241 = rs240 ∧ TSb T241 ∧ Sb p238 (rs240.length) c239 1 ∧ Am.Sub [(3, .slice p238 rs240.length c239)] t') ?_ ?_
  · refine AX.block ?_
    refine AX.loopF (fun s' t' H' => ∃ (rs194 : List (List Int)) (x196 : Int) (p192 : Option Addr) (c193 : Nat) (T195 : Tb), (rs194, x196) = s' ∧ St [] H H' [oseg p192 (tcells T195), tseg T195] ∧ trows T195 = rs194 ∧ TSb T195 ∧ Sb p192 (rs194.length) c193 1 ∧ Am.Sub [(0, .slice p_a0 a0.length c_a0), (3, .slice p192 rs194.length c193), (4, .int .i64 x196)] t') hl243 ?_ ?_
    · skip
      have S245 := S102t.front 1 rfl
      have S246 := S245.front 1 rfl
      exact ⟨[], 0, (some (Addr.mk i101 0 none)), 0, [], rfl, S246, rfl, TSb.nil, (Sb.lit (n := 0) (by decide)), Sub.cons' rfl rfl (Sub.cons' rfl rfl (Sub.cons' rfl rfl (Sub.nil _)))⟩
    · rintro n247 _ t' G251 ⟨rs194, x196, p192, c193, T195, rfl, S250, tT195, sT195, Bo191, hsub252⟩ o253 ho248 hk249
      refine AX.sub hsub252 ?_
      unfold D_spec_l03Own_s0 at ho248
      refine AX.seq ?_
      refine AX.seq ?_
      refine AX.region ?_
      refine AO.p rfl (p_move rfl) ?_
      refine AO.p rfl (p_move rfl) ?_
      refine AO.p rfl (p_len_slice rfl Try.underlying43) ?_
      refine AO.p rfl (p_lss rfl rfl) ?_
      refine AO.nil ?_
      refine AX.cond rfl (fun c254 => ?_) (fun c254 => ?_)
      · have hd255 := bif_t c254 ho248
        refine AX.skip ?_
        refine AX.seq ?_
        refine AX.block ?_
        refine AX.region ?_
        refine AO.p rfl (p_move rfl) ?_
        refine AO.p rfl (p_move rfl) ?_
        refine AO.p rfl (p_move rfl) ?_
        obtain ⟨k256, hd257⟩ := chk_some hd255
        obtain ⟨p258, c259, e260, f261⟩ := tget t_a0 (lt_len rfl (inR_lt k256))
        refine AO.p rfl (s_indexV (q := off p_a0 + x196.toNat) Try.underlying43 Try.sizeOf58 rfl ((S250.view v_a0).p f261) rfl k256 (o1 _ _)) ?_
        refine AO.c rfl (s_load Try.isAgg58 rfl ((S250.view v_a0).get _ _ f261)) ?_
        obtain ⟨xs262, h263, hd264⟩ := bnd_some hd257
        obtain ⟨_, G270, hc269, p265, c266, rfl, S271, B268⟩ := W_spec_l01Own fu G251 p258 c259 (rw_ a0 x196.toNat) (TVw.at (S250.tview w_a0) e260) xs262 h263
        have S272 := S250.call S271
        refine AO.c rfl (o_call (vs := [.slice p258 ((rw_ a0 x196.toNat).length) c259]) rfl Try.call114 hc269) ?_
        obtain ⟨G273, i274, hii274, hHG273, S275⟩ := S272.new (AObj.row false (tcells [(p265, c266, xs262)]))
        have S277 := (S275.front 1 rfl).tone p265 c266 xs262 rfl
        refine AO.c rfl (s_buildT1 (i := i274) (X := [(p265, c266, xs262)]) (n := xs262.length) rfl Try.underlying43 Try.sizeOf58 Try.zeroValue58 rfl rfl hii274 hHG273) ?_
        obtain ⟨k278, hd279⟩ := chk_some hd264
        obtain ⟨p280, c281, G282, haG282, S283, Bp280⟩ := S277.app (k := 2) rfl Bo191 (tcells [(p265, c266, xs262)]) 1 (tc_len1 rfl rfl)
        have S284 := S283.cellsEq (k := 2) (us' := tcells (T195 ++ [(p265, c266, xs262)])) (tcells_app _ _).symm rfl
        have BS284 : Sb p280 ((rs194 ++ [xs262]).length) c281 1 := (show rs194.length + 1 = (rs194 ++ [xs262]).length from len_app (a := rs194) (b := [xs262]) rfl rfl) ▸ Bp280
        have S285 := S284.front 0 rfl
        have S286 := (S285.front 3 rfl).tmerge
        have S287 := S286.drop 1 rfl
        refine AO.c rfl (s_app (by_ := 24) (us := tcells T195) (vs := tcells [(p265, c266, xs262)]) Try.underlying43 Try.underlying43 Try.typeInfo58 Try.sizeOf58 Try.zeroValue58 rfl rfl rfl rfl rfl rfl rfl (S277.buf (k := 2) rfl Bo191 (tc_len1 tT195 rfl)) (S277.oview (k := 1) rfl (Sb.lit (n := 1) (by decide)) (tc_len1 rfl rfl)) (tc_len1 rfl rfl) tcells_one k278 haG282 (show rs194.length + 1 = (rs194 ++ [xs262]).length from len_app (a := rs194) (b := [xs262]) rfl rfl)) ?_
        refine AO.p rfl (p_assign rfl) ?_
        refine AO.nil ?_
        refine AX.region ?_
        refine AO.p rfl (p_move rfl) ?_
        obtain ⟨k288, hd289⟩ := chk_some hd279
        refine AO.p rfl (p_addE rfl rfl k288) ?_
        refine AO.p rfl (p_assign rfl) ?_
        refine AO.nil ?_
        obtain rfl := some_inj hd289
        have S291 := S287.front 0 rfl
        have S292 := S291.front 1 rfl
        exact ⟨((rs194 ++ [xs262]), x196 + 1), hk249, (rs194 ++ [xs262]), (x196 + 1), p280, c281, (T195 ++ [(p265, c266, xs262)]), rfl, S292, (trows_apps tT195 rfl), (TSb.app sT195 (TSb.one (sb_len rfl B268))), BS284, Sub.cons' rfl rfl (Sub.cons' rfl rfl (Sub.cons' rfl rfl (Sub.nil _)))⟩
      · have hd293 := bif_f c254 ho248
        refine AX.exit ?_
        obtain rfl := some_inj hd293
        have S294 := S250.front 1 rfl
        have S295 := S294.front 1 rfl
        exact ⟨rs194, p192, c193, T195, hk249, S295, tT195, sT195, Bo191, Sub.cons' rfl rfl (Sub.nil _)⟩
  · rintro t' G297 ⟨rs240, p238, c239, T241, rfl, S296, tT241, sT241, Bo237, hsub298⟩
    refine ⟨_, hsub298, ?_⟩
    refine AX.seq ?_
    refine AX.region ?_
    refine AO.p rfl (p_move rfl) ?_
    refine AO.p rfl (p_assign rfl) ?_
    refine AO.nil ?_
    refine AX.ret ?_
    obtain rfl := some_inj hd244
    have S299 := S296.front 1 rfl
    have S300 := S299.front 1 rfl
    exact ⟨.inr rfl, _, res1 rfl (rv_tmp rfl), p238, c239, T241, rfl, S300, Bo237, tT241, sT241⟩

set_option maxHeartbeats 4000000 in
theorem W_spec_StarterList (fu : Nat) (H : AHeap) (a0 : Int) (r0 : List (List (List Int))) (r1 : Int) (hd : D_spec_StarterList fu a0 = some (r0, r1)) : ∃ v G', ACall Try.prog 12 [.int .i64 a0] H v G' ∧ ∃ (p_r0 : Option Addr) (c_r0 : Nat) (T_r0 : Tb3), (v = .tuple #[.slice p_r0 r0.length c_r0, .int .i64 r1]) ∧ St [] H G' [oseg p_r0 (tcells3 T_r0), t3seg T_r0] ∧ Sb p_r0 r0.length c_r0 1 ∧ trows3 T_r0 = r0 ∧ TSb3 T_r0 := by
  refine ACall.bodyX (args := [.int .i64 a0]) (N := 33) [(0, .int .i64 a0)] (fun v G' => ∃ (p_r0 : Option Addr) (c_r0 : Nat) (T_r0 : Tb3), (v = .tuple #[.slice p_r0 r0.length c_r0, .int .i64 r1]) ∧ St [] H G' [oseg p_r0 (tcells3 T_r0), t3seg T_r0] ∧ Sb p_r0 r0.length c_r0 1 ∧ trows3 T_r0 = r0 ∧ TSb3 T_r0) Try.func12 rfl rfl rfl rfl ?_
  unfold D_spec_StarterList at hd
  have S0 : St [] H H [] := St.nil H
  have S0 := S0.poolNew
  refine AX.seq ?_
  refine AX.region ?_
  refine AO.p rfl (p_assign rfl) ?_
  refine AO.p rfl (p_assign rfl) ?_
  refine AO.nil ?_
  refine AX.seq ?_
  refine AX.block ?_
  refine AX.seq ?_
  refine AX.region ?_
  refine AO.p rfl (p_move rfl) ?_
  obtain ⟨b100, h101, hd102⟩ := bnd_some hd
  refine AO.c rfl (o_call (vs := [.int .i64 a0]) rfl Try.call55 (W_spec_l03Modulus fu H a0 b100 h101)) ?_
  refine AO.p rfl (p_not rfl) ?_
  refine AO.p rfl (p_assign rfl) ?_
  refine AO.nil ?_
  refine AX.cond rfl (fun c104 => ?_) (fun c104 => ?_)
  · have hd105 := bif_t c104 hd102
    refine AX.seq ?_
    refine AX.region ?_
    refine AO.p rfl (p_assign rfl) ?_
    refine AO.p rfl (p_assign rfl) ?_
    refine AO.nil ?_
    refine AX.ret ?_
    obtain ⟨rfl, rfl⟩ := Prod.mk.inj (some_inj hd105)
    have S107 : St [] H H (tseg [] :: _) := S0.nilseg 0
    have S108 : St [] H H (oseg none (tcells3 []) :: _) := S107.nilseg 0
    have S109 := S108.keep 2
    exact ⟨.inr rfl, _, res2 rfl (rv_tmp rfl) (rv_tmp rfl), none, 0, [], rfl, S109, Sb.nil, rfl, TSb3.nil⟩
  · have hd110 := bif_f c104 hd102
    refine AX.seq ?_
    refine AX.region ?_
    refine AO.p rfl (p_move rfl) ?_
    refine AO.p rfl (p_gtr rfl rfl) ?_
    refine AO.p rfl (p_assign rfl) ?_
    refine AO.nil ?_
    refine AX.cond rfl (fun c111 => ?_) (fun c111 => ?_)
    · have hd112 := bif_t c111 hd110
      refine AX.seq ?_
      refine AX.region ?_
      refine AO.p rfl (p_assign rfl) ?_
      refine AO.p rfl (p_assign rfl) ?_
      refine AO.nil ?_
      refine AX.ret ?_
      obtain ⟨rfl, rfl⟩ := Prod.mk.inj (some_inj hd112)
      have S114 : St [] H H (tseg [] :: _) := S0.nilseg 0
      have S115 : St [] H H (oseg none (tcells3 []) :: _) := S114.nilseg 0
      have S116 := S115.keep 2
      exact ⟨.inr rfl, _, res2 rfl (rv_tmp rfl) (rv_tmp rfl), none, 0, [], rfl, S116, Sb.nil, rfl, TSb3.nil⟩
    · have hd117 := bif_f c111 hd110
      refine AX.skip ?_
      refine AX.seq ?_
      refine AX.region ?_
      refine AO.p rfl (p_move rfl) ?_
      obtain ⟨G118, i119, hii119, hHG118, S120⟩ := S0.new (AObj.row false (tcells []))
      have S120t := S120.nilseg 1
      refine AO.c rfl (s_build0 (i := i119) Try.underlying43 Try.sizeOf58 hii119 hHG118) ?_
      have S122 := S120t.front 2 rfl
      have S123 := S122.front 2 rfl
      obtain ⟨F124, hF125, hp126, S127⟩ := S123.poolRows PR.nil TSb.nil
      have S128 := S127.front 0 rfl
      have S129 := S128.front 1 rfl
      obtain ⟨F130, hF131, hp132, S133⟩ := S129.poolHdr hp126 (Sb.lit (n := 0) (by decide)) (tlen rfl)
      have S135 := S133.front 0 rfl
      obtain ⟨rss136, h137, hd138⟩ := bnd_some hd117
      obtain ⟨_, G147, hc149, p140, c141, T142, F139, rfl, S148, t143, hv144, hF146⟩ := W_spec_l03Search fu G118 F130 a0 (some (Addr.mk i119 0 none)) 0 [] [] rfl hp132 false 1073741824 (St.fnodup (A := [F130]) S135) (St.fmem (A := [F130]) S135) rss136 h137
      have S150 := St.callM (A := [F130]) S135 S148 (fun j h => h)
      refine AO.c rfl (o_call (vs := [.int .i64 a0, .slice (some (Addr.mk i119 0 none)) 0 0, .bool false, .int .i64 1073741824]) rfl Try.call56 hc149) ?_
      obtain ⟨G151, i152, hii152, hHG151, S153⟩ := S150.new (AObj.row false (tcells3 []))
      have S153t : St [] H G151 (_ :: t3seg [] :: _) := S153.nilseg 1
      refine AO.c rfl (s_build0 (i := i152) Try.underlying25 Try.sizeOf43 hii152 hHG151) ?_
      refine AO.p rfl (p_assign rfl) ?_
      refine AO.p rfl (p_assign rfl) ?_
      refine AO.nil ?_
      refine AX.seq ?_
      refine AX.seq ?_
      refine AX.region ?_
      refine AO.p rfl (p_assign rfl) ?_
      refine AO.nil ?_
      obtain ⟨r329, hl330, hd331⟩ := bnd_some hd138
      refine AX.cutS (fun t' H' => ∃ (rss327 : List (List (List Int))) (p325 : Option Addr) (c326 : Nat) (T328 : Tb3), rss327 = r329 ∧ St [] H H' [F139, oseg p325 (tcells3 T328), t3seg T328] ∧ trows3 T328 = rss327 ∧ TSb3 T328 ∧ Sb p325 (rss327.length) c326 1 ∧ Am.Sub [(5, .slice p325 rss327.length c326)] t') ?_ ?_
      · refine AX.block ?_
        refine AX.loopF (fun s' t' H' => ∃ (rss271 : List (List (List Int))) (x273 : Int) (p269 : Option Addr) (c270 : Nat) (T272 : Tb3), (rss271, x273) = s' ∧ St [] H H' [F139, oseg p269 (tcells3 T272), t3seg T272] ∧ PT3 F139 p140 c141 T142 ∧ trows3 T272 = rss271 ∧ TSb3 T272 ∧ Sb p269 (rss271.length) c270 1 ∧ Am.Sub [(4, .slice p140 rss136.length c141), (5, .slice p269 rss271.length c270), (6, .int .i64 x273)] t') hl330 ?_ ?_
        · skip
          have S332 := S153t.front 1 rfl
          have S333 := S332.front 1 rfl
          have S334 := S333.front 2 rfl
          exact ⟨[], 0, (some (Addr.mk i152 0 none)), 0, [], rfl, S334, hv144, rfl, TSb3.nil, (Sb.lit (n := 0) (by decide)), Sub.cons' rfl rfl (Sub.cons' rfl rfl (Sub.cons' rfl rfl (Sub.nil _)))⟩
        · rintro n335 _ t' G339 ⟨rss271, x273, p269, c270, T272, rfl, S338, hv267, tT272, sT272, Bo268, hsub340⟩ o341 ho336 hk337
          refine AX.sub hsub340 ?_
          unfold D_spec_StarterList_s0 at ho336
          refine AX.seq ?_
          refine AX.seq ?_
          refine AX.region ?_
          refine AO.p rfl (p_move rfl) ?_
          refine AO.p rfl (p_move rfl) ?_
          refine AO.p rfl (p_len_slice rfl Try.underlying25) ?_
          refine AO.p rfl (p_lss rfl rfl) ?_
          refine AO.nil ?_
          refine AX.cond rfl (fun c342 => ?_) (fun c342 => ?_)
          · have hd343 := bif_t c342 ho336
            refine AX.skip ?_
            refine AX.seq ?_
            refine AX.block ?_
            refine AX.region ?_
            refine AO.p rfl (p_move rfl) ?_
            refine AO.p rfl (p_move rfl) ?_
            refine AO.p rfl (p_move rfl) ?_
            obtain ⟨k344, hd345⟩ := chk_some hd343
            obtain ⟨p346, c347, T350, e348, f349, t351⟩ := tget3 t143 (lt_len rfl (inR_lt k344))
            refine AO.p rfl (s_indexV (q := off p140 + x273.toNat) Try.underlying25 Try.sizeOf43 rfl ((S338.pt3view (k := 0) rfl hv267 (tlen3 t143)).p f349) rfl k344 (o1 _ _)) ?_
            refine AO.c rfl (s_load Try.isAgg43 rfl ((S338.pt3view (k := 0) rfl hv267 (tlen3 t143)).get _ _ f349)) ?_
            obtain ⟨rs353, h354, hd355⟩ := bnd_some hd345
            obtain ⟨_, G364, hc363, p356, c357, T360, rfl, S365, B359, t361, s362⟩ := W_spec_l03Own fu G339 p346 c347 T350 (rw3 rss136 x273.toNat) t351 (S338.ptview (k := 0) rfl (PA.at (hv267).rs e348) (tlen t351)) (S338.prview (k := 0) rfl ((PA.at (hv267).rs e348)).rs) rs353 h354
            have S366 := S338.call S365
            refine AO.c rfl (o_call (vs := [.slice p346 ((rw3 rss136 x273.toNat).length) c347]) rfl Try.call57 hc363) ?_
            obtain ⟨G367, i368, hii368, hHG367, S369⟩ := S366.new (AObj.row false ([.slice p356 rs353.length c357]))
            refine AO.c rfl (s_buildSl (i := i368) (vs := [(0, .slice p356 rs353.length c357)]) (cs := [.slice p356 rs353.length c357]) Try.underlying25 Try.sizeOf43 Try.zeroValue43 rfl rfl (by decide) rfl rfl hii368 hHG367) ?_
            have S371 := S369.cellsEq (k := 0) (p := some ⟨i368, 0, none⟩) (us' := tcells3 [(p356, c357, T360)]) (congrArg (fun n => [Value.slice p356 n c357]) (tlen t361).symm) rfl
            have S372 := S371.front 2 rfl
            have S373 := S372.front 2 rfl
            have S374 := S373.t3one c357
            obtain ⟨k375, hd376⟩ := chk_some hd355
            obtain ⟨p377, c378, G379, haG379, S380, Bp377⟩ := S374.app (k := 3) rfl Bo268 (tcells3 [(p356, c357, T360)]) 1 (tc3_len1 (trows3_1 t361) rfl)
            have S381 := S380.cellsEq (k := 3) (us' := tcells3 (T272 ++ [(p356, c357, T360)])) (tcells3_app _ _).symm rfl
            have BS381 : Sb p377 ((rss271 ++ [rs353]).length) c378 1 := (show rss271.length + 1 = (rss271 ++ [rs353]).length from len_app (a := rss271) (b := [rs353]) rfl rfl) ▸ Bp377
            have S382 := S381.front 0 rfl
            have S383 := S382.front 4 rfl
            have S384 := S383.t3merge
            have S385 := S384.drop 1 rfl
            refine AO.c rfl (s_app (by_ := 24) (us := tcells3 T272) (vs := tcells3 [(p356, c357, T360)]) Try.underlying25 Try.underlying25 Try.typeInfo43 Try.sizeOf43 Try.zeroValue43 rfl rfl rfl rfl rfl rfl rfl (S374.buf (k := 3) rfl Bo268 (tc3_len1 tT272 rfl)) (S374.oview (k := 1) rfl (Sb.lit (n := 1) (by decide)) (tc3_len1 (trows3_1 t361) rfl)) (tc3_len1 (trows3_1 t361) rfl) tcells3_one k375 haG379 (show rss271.length + 1 = (rss271 ++ [rs353]).length from len_app (a := rss271) (b := [rs353]) rfl rfl)) ?_
            refine AO.p rfl (p_assign rfl) ?_
            refine AO.nil ?_
            refine AX.region ?_
            refine AO.p rfl (p_move rfl) ?_
            obtain ⟨k386, hd387⟩ := chk_some hd376
            refine AO.p rfl (p_addE rfl rfl k386) ?_
            refine AO.p rfl (p_assign rfl) ?_
            refine AO.nil ?_
            obtain rfl := some_inj hd387
            have S389 := S385.front 0 rfl
            have S390 := S389.front 2 rfl
            have S391 := S390.front 2 rfl
            exact ⟨((rss271 ++ [rs353]), x273 + 1), hk337, (rss271 ++ [rs353]), (x273 + 1), p377, c378, (T272 ++ [(p356, c357, T360)]), rfl, S391, hv267, (trows3_apps tT272 (trows3_1 t361)), (TSb3.app sT272 (TSb3.one B359 (tlen t361) s362)), BS381, Sub.cons' rfl rfl (Sub.cons' rfl rfl (Sub.cons' rfl rfl (Sub.nil _)))⟩
          · have hd392 := bif_f c342 ho336
            refine AX.exit ?_
            obtain rfl := some_inj hd392
            have S393 := S338.front 2 rfl
            have S394 := S393.front 2 rfl
            have S395 := S394.front 2 rfl
            exact ⟨rss271, p269, c270, T272, hk337, S395, tT272, sT272, Bo268, Sub.cons' rfl rfl (Sub.nil _)⟩
      · rintro t' G397 ⟨rss327, p325, c326, T328, rfl, S396, tT328, sT328, Bo324, hsub398⟩
        refine ⟨_, hsub398, ?_⟩
        refine AX.seq ?_
        refine AX.region ?_
        refine AO.p rfl (p_move rfl) ?_
        refine AO.p rfl (p_assign rfl) ?_
        refine AO.p rfl (p_assign rfl) ?_
        refine AO.nil ?_
        refine AX.ret ?_
        obtain ⟨rfl, rfl⟩ := Prod.mk.inj (some_inj hd331)
        have S400 := S396.front 2 rfl
        have S401 := S400.front 2 rfl
        have S402 := S401.keep 2
        exact ⟨.inr rfl, _, res2 rfl (rv_tmp rfl) (rv_tmp rfl), p325, c326, T328, rfl, S402, Bo324, tT328, sT328⟩

end Go.Proofs.Ytdafmafigcljkaa
