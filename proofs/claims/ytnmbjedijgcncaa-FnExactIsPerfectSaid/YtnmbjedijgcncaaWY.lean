/-
  The program computes that, printed by a program. No condition.
-/
import Derived.Test.YtnmbjedijgcncaaDY
import Derived.Test.YtnmbjedijgcncaaWH
import Derived.Test.YtnmbjedijgcncaaProg
import Derived.KernelRfl
namespace Go.Proofs.Ytnmbjedijgcncaa
open Go Go.RowKit Am
set_option linter.unusedVariables false
set_option linter.unusedSimpArgs false
set_option maxRecDepth 20000
set_option maxHeartbeats 4000000 in
theorem W_laws_FnExactTypesOf (fu : Nat) (H : AHeap) (a0_0 : Int) (p_a0_1 : Option Addr) (c_a0_1 : Nat) (a0_1 : List (List Int)) (a_a0_1 : All 14 a0_1) (v_a0_1 : Vw H p_a0_1 a0_1.length c_a0_1 (ints a0_1.flatten)) (r0 : Bool) (hd : D_laws_FnExactTypesOf fu a0_0 a0_1 = some r0) : ACall Try.prog 5 [.agg [.int .i64 a0_0, .slice p_a0_1 a0_1.length c_a0_1].toArray] H (.bool r0) H := by
  refine ACall.bodyP (N := 96) [(0, .agg [.int .i64 a0_0, .slice p_a0_1 a0_1.length c_a0_1].toArray)] Try.func5 rfl rfl rfl rfl ?_
  unfold D_laws_FnExactTypesOf at hd
  have S0 : St [] H H [] := St.nil H
  refine AX.seq ?_
  refine AX.region ?_
  obtain ⟨G100, i101, hii101, hHG100, S102⟩ := S0.new (AObj.row false ([.int .i64 a0_0, .slice p_a0_1 a0_1.length c_a0_1]))
  refine AO.c rfl (s_box (i := i101) (cs := [.int .i64 a0_0, .slice p_a0_1 a0_1.length c_a0_1]) rfl hii101 rfl hHG100) ?_
  refine AO.p rfl (p_assign rfl) ?_
  refine AO.nil ?_
  refine AX.seq ?_
  refine AX.region ?_
  refine AO.p rfl (p_assign rfl) ?_
  refine AO.nil ?_
  refine AX.seq ?_
  refine AX.region ?_
  refine AO.c rfl (s_loadN (vs := [.int .i64 a0_0, .slice p_a0_1 a0_1.length c_a0_1]) Try.isAgg38 Try.sizeOf38 rfl rfl (row_cells (S102.get (k := 0) rfl))) ?_
  refine AO.p rfl (p_move rfl) ?_
  obtain ⟨x104, h105, hd106⟩ := bnd_some hd
  refine AO.c rfl (o_call (vs := [.agg [.int .i64 a0_0, .slice p_a0_1 a0_1.length c_a0_1].toArray, .int .i64 1048576]) rfl Try.call26 (W_laws_szSchedule fu G100 a0_0 p_a0_1 c_a0_1 a0_1 a_a0_1 (S102.view v_a0_1) 1048576 x104 h105)) ?_
  refine AO.p rfl (p_assign rfl) ?_
  refine AO.nil ?_
  refine AX.seq ?_
  refine AX.seq ?_
  refine AX.region ?_
  refine AO.p rfl (p_move rfl) ?_
  refine AO.p rfl (p_lss rfl rfl) ?_
  refine AO.nil ?_
  refine AX.cond rfl (fun c108 => ?_) (fun c108 => ?_)
  · have hd109 := bif_t c108 hd106
    refine AX.seq ?_
    refine AX.region ?_
    refine AO.p rfl (p_assign rfl) ?_
    refine AO.nil ?_
    refine AX.ret ?_
    obtain rfl := some_inj hd109
    exact ⟨.inr rfl, _, res1 rfl (rv_tmp rfl), rfl, (flatB_ok rfl), S102.hold⟩
  · have hd110 := bif_f c108 hd106
    refine AX.skip ?_
    refine AX.seq ?_
    refine AX.region ?_
    refine AO.c rfl (s_loadN (vs := [.int .i64 a0_0, .slice p_a0_1 a0_1.length c_a0_1]) Try.isAgg38 Try.sizeOf38 rfl rfl (row_cells (S102.get (k := 0) rfl))) ?_
    obtain ⟨⟨x111, rs112⟩, h113, hd114⟩ := bnd_some hd110
    obtain ⟨_, G121, hc120, p115, c116, rfl, S122, B118, a119⟩ := W_laws_toSchedule fu G100 a0_0 p_a0_1 c_a0_1 a0_1 a_a0_1 (S102.view v_a0_1) x111 rs112 h113
    have S123 := S102.call S122
    refine AO.c rfl (o_call (vs := [.agg [.int .i64 a0_0, .slice p_a0_1 a0_1.length c_a0_1].toArray]) rfl Try.call28 hc120) ?_
    obtain ⟨⟨rs124, x125⟩, h126, hd127⟩ := bnd_some hd114
    obtain ⟨_, G136, hc135, p128, c129, T132, rfl, S137, B131, t133, s134⟩ := W_spec_TypesOf fu G121 x111 p115 c116 rs112 a119 (S123.oview (k := 0) rfl B118 (flat_len1 a119 rfl)) rs124 x125 h126
    have S138 := S123.call S137
    refine AO.c rfl (o_call (vs := [.agg [.int .i64 x111, .slice p115 rs112.length c116].toArray]) rfl Try.call27 hc135) ?_
    refine AO.p rfl (p_move rfl) ?_
    refine AO.p rfl (p_extract rfl rfl) ?_
    refine AO.p rfl (p_extract rfl rfl) ?_
    refine AO.p rfl (p_assign rfl) ?_
    refine AO.p rfl (p_assign rfl) ?_
    refine AO.nil ?_
    refine AX.seq ?_
    refine AX.region ?_
    refine AO.c rfl (s_loadN (vs := [.int .i64 a0_0, .slice p_a0_1 a0_1.length c_a0_1]) Try.isAgg38 Try.sizeOf38 rfl rfl (row_cells (S138.get (k := 3) rfl))) ?_
    obtain ⟨⟨x139, rs140⟩, h141, hd142⟩ := bnd_some hd127
    obtain ⟨_, G149, hc148, p143, c144, rfl, S150, B146, a147⟩ := W_laws_toSchedule fu G136 a0_0 p_a0_1 c_a0_1 a0_1 a_a0_1 (S138.view v_a0_1) x139 rs140 h141
    have S151 := S138.call S150
    refine AO.c rfl (o_call (vs := [.agg [.int .i64 a0_0, .slice p_a0_1 a0_1.length c_a0_1].toArray]) rfl Try.call28 hc148) ?_
    obtain ⟨G152, i153, hii153, hHG152, S154⟩ := S151.new (AObj.row false ([.int .i64 0, .slice none 0 0]))
    refine AO.c rfl (s_alloc (i := i153) (cs := [.int .i64 0, .slice none 0 0]) Try.zeroValue43 rfl rfl hii153 hHG152) ?_
    obtain ⟨G156, hHG156, S157⟩ := S154.set (k := 0) (i := i153) rfl (AObj.row false ([.int .i64 x139, .slice p143 rs140.length c144]))
    refine AO.s (s_storeAll (vs := [.int .i64 x139, .slice p143 rs140.length c144]) Try.sizeOf43 rfl rfl (ones_list rfl) (S154.get (k := 0) rfl) rfl rfl hHG156) ?_
    refine AO.nil ?_
    refine AX.seq ?_
    refine AX.region ?_
    refine AO.c rfl (s_loadN (vs := [.int .i64 x139, .slice p143 rs140.length c144]) Try.isAgg43 Try.sizeOf43 rfl rfl (row_cells (S157.get (k := 0) rfl))) ?_
    obtain ⟨⟨rs158, x159⟩, h160, hd161⟩ := bnd_some hd142
    obtain ⟨_, G170, hc169, p162, c163, T166, rfl, S171, B165, t167, s168⟩ := W_impl_TypesOf fu G156 x139 p143 c144 rs140 a147 (S157.oview (k := 1) rfl B146 (flat_len1 a147 rfl)) (B146.cu) rs158 x159 h160
    have S172 := S157.call S171
    refine AO.c rfl (o_call (vs := [.agg [.int .i64 x139, .slice p143 rs140.length c144].toArray]) rfl Try.call29 hc169) ?_
    refine AO.p rfl (p_move rfl) ?_
    refine AO.p rfl (p_extract rfl rfl) ?_
    refine AO.p rfl (p_extract rfl rfl) ?_
    refine AO.p rfl (p_assign rfl) ?_
    refine AO.p rfl (p_assign rfl) ?_
    refine AO.nil ?_
    refine AX.seq ?_
    obtain ⟨r186, hb187, hd188⟩ := bnd_some hd161
    refine AX.cut (fun t' H' => ∃ (b185 : Bool), b185 = r186 ∧ St [] H H' [[(i101, AObj.row false ([.int .i64 a0_0, .slice p_a0_1 a0_1.length c_a0_1]))], oseg p128 (tcells T132), tseg T132, [(i153, AObj.row false ([.int .i64 x139, .slice p143 rs140.length c144]))], oseg p143 (ints rs140.flatten), oseg p162 (tcells T166), tseg T166] ∧ Am.Sub [(1, .pointer (some ⟨i101, 0, none⟩)), (4, .slice p128 rs124.length c129), (5, .int .i64 x125), (6, .pointer (some ⟨i153, 0, none⟩)), (7, .slice p162 rs158.length c163), (8, .int .i64 x159), (40, .bool b185)] t') ?_ ?_
    · skip
      refine AX.region ?_
      refine AO.p rfl (p_move rfl) ?_
      refine AO.p rfl (p_move rfl) ?_
      obtain ⟨b189, h190, hd191⟩ := bnd_some hb187
      refine AO.c rfl (o_call (vs := [.slice p162 rs158.length c163, .slice p128 rs124.length c129]) rfl Try.call18 (W_laws_eqInt64SS fu G170 p162 c163 T166 rs158 t167 (S172.oview (k := 0) rfl B165 (tc_len1 t167 rfl)) (S172.oviewT (k := 1) rfl s168) p128 c129 T132 rs124 t133 (S172.oview (k := 4) rfl B131 (tc_len1 t133 rfl)) (S172.oviewT (k := 5) rfl s134) b189 h190)) ?_
      refine AO.p rfl (p_not rfl) ?_
      refine AO.p rfl (p_move rfl) ?_
      refine AO.cases (d := 36) rfl (fun c193 => ?_) (fun c193 => ?_)
      · have hd194 := bif_t c193 hd191
        refine AO.gn rfl rfl rfl ?_
        refine AO.gn rfl rfl rfl ?_
        refine AO.gn rfl rfl rfl ?_
        refine AO.p rfl (p_pickT rfl rfl) ?_
        refine AO.nil ?_
        have S195 := S172.front 1 rfl
        have S196 := S195.front 1 rfl
        have S197 := S196.front 3 rfl
        have S198 := S197.front 3 rfl
        have S199 := S198.front 5 rfl
        have S200 := S199.front 5 rfl
        have S201 := S200.front 7 rfl
        have S202 := S201.keep 7
        exact ⟨true, (some_inj hd194), S202, Sub.cons' rfl rfl (Sub.cons' rfl rfl (Sub.cons' rfl rfl (Sub.cons' rfl rfl (Sub.cons' rfl rfl (Sub.cons' rfl rfl (Sub.cons' rfl rfl (Sub.nil _)))))))⟩
      · have hd203 := bif_f c193 hd191
        refine AO.gp rfl rfl rfl (p_move rfl) ?_
        refine AO.gp rfl rfl rfl (p_move rfl) ?_
        refine AO.gp rfl rfl rfl (p_neq rfl rfl) ?_
        refine AO.p rfl (p_pickF rfl rfl) ?_
        refine AO.nil ?_
        have S204 := S172.front 1 rfl
        have S205 := S204.front 1 rfl
        have S206 := S205.front 3 rfl
        have S207 := S206.front 3 rfl
        have S208 := S207.front 5 rfl
        have S209 := S208.front 5 rfl
        have S210 := S209.front 7 rfl
        have S211 := S210.keep 7
        exact ⟨(!decide (x159 = x125)), (some_inj hd203), S211, Sub.cons' rfl rfl (Sub.cons' rfl rfl (Sub.cons' rfl rfl (Sub.cons' rfl rfl (Sub.cons' rfl rfl (Sub.cons' rfl rfl (Sub.cons' rfl rfl (Sub.nil _)))))))⟩
    · rintro t' G213 ⟨b185, rfl, S212, hsub214⟩
      refine AX.sub hsub214 ?_
      refine AX.cond rfl (fun c215 => ?_) (fun c215 => ?_)
      · have hd216 := bif_t c215 hd188
        refine AX.seq ?_
        refine AX.region ?_
        refine AO.p rfl (p_assign rfl) ?_
        refine AO.nil ?_
        refine AX.ret ?_
        obtain rfl := some_inj hd216
        exact ⟨.inr rfl, _, res1 rfl (rv_tmp rfl), rfl, (flatB_ok rfl), S212.hold⟩
      · have hd217 := bif_f c215 hd188
        refine AX.skip ?_
        refine AX.seq ?_
        refine AX.seq ?_
        refine DR.startS [false, false, true, true, false] mix (by kernel_rfl) (fun hst => ?_)
        refine DR.r rfl rfl (r_loadN (vs := [.int .i64 x139, .slice p143 rs140.length c144]) rfl Try.isAgg43 Try.sizeOf43 rfl) (many_row (row_cells (S212.get (k := 3) rfl)) (bel_cons (.of_flat0 rfl) (bel_cons (S212.oin (k := 4) rfl B146).bel bel_nil))) ?_
        refine DR.r rfl rfl (r_loadN (vs := [.int .i64 a0_0, .slice p_a0_1 a0_1.length c_a0_1]) rfl Try.isAgg38 Try.sizeOf38 rfl) (many_row (row_cells (S212.get (k := 0) rfl)) (bel_cons (.of_flat0 rfl) (bel_cons (S212.view v_a0_1).inn.bel bel_nil))) ?_
        obtain ⟨⟨x218, rs219⟩, h220, hd221⟩ := bnd_some hd217
        obtain ⟨_, G228, hc227, p222, c223, rfl, S229, B225, a226⟩ := W_laws_toSchedule fu G213 a0_0 p_a0_1 c_a0_1 a0_1 a_a0_1 (S212.view v_a0_1) x218 rs219 h220
        have S230 := S212.call S229
        refine DR.w rfl rfl (o_call (vs := [.agg [.int .i64 a0_0, .slice p_a0_1 a0_1.length c_a0_1].toArray]) rfl Try.call28 hc227) (S229.len) ?_
        obtain ⟨b231, h232, hd233⟩ := bnd_some hd221
        refine DR.w rfl rfl (o_call (vs := [.agg [.int .i64 x139, .slice p143 rs140.length c144].toArray, .agg [.int .i64 x218, .slice p222 rs219.length c223].toArray]) rfl Try.call30 (W_laws_eqSchedule fu G228 x139 p143 c144 rs140 a147 (S230.oview (k := 5) rfl B146 (flat_len1 a147 rfl)) x218 p222 c223 rs219 a226 (S230.oview (k := 0) rfl B225 (flat_len1 a226 rfl)) b231 h232)) (Nat.le_refl _) ?_
        refine DR.p rfl rfl (p_not rfl) ?_
        refine DR.nil 5 [(0, 2)] hst (by kernel_rfl) ⟨(rdN (fun h => S229.hold _ h)), trivial⟩ ?_
        refine AX.cond rfl (fun c235 => ?_) (fun c235 => ?_)
        · have hd236 := bif_t c235 hd233
          refine AX.seq ?_
          refine AX.region ?_
          refine AO.p rfl (p_assign rfl) ?_
          refine AO.nil ?_
          refine AX.ret ?_
          obtain rfl := some_inj hd236
          exact ⟨.inr rfl, _, res1 rfl (rv_tmp rfl), rfl, (flatB_ok rfl), S230.hold⟩
        · have hd237 := bif_f c235 hd233
          refine AX.skip ?_
          refine AX.seq ?_
          refine AX.region ?_
          refine AO.p rfl (p_assign rfl) ?_
          refine AO.nil ?_
          refine AX.seq ?_
          refine AX.region ?_
          refine AO.c rfl (s_loadN (vs := [.int .i64 x139, .slice p143 rs140.length c144]) Try.isAgg43 Try.sizeOf43 rfl rfl (row_cells (S230.get (k := 4) rfl))) ?_
          refine AO.p rfl (p_move rfl) ?_
          have S238 := S230.front 5 rfl
          obtain ⟨⟨x239, rs240⟩, h241, hd242⟩ := bnd_some hd237
          obtain ⟨_, G246, hc245, rfl, S247, l243, a244⟩ := W_laws_markSchedule fu G228 x139 p143 c144 rs140 a147 B146 1 (S238.onodup (k := 0) rfl) (S238.omem (k := 0) rfl) x239 rs240 h241
          have S248 := St.callM (A := [oseg p143 (ints rs140.flatten)]) S238 S247 (by simp)
          refine AO.c rfl (o_call (vs := [.agg [.int .i64 x139, .slice p143 rs140.length c144].toArray, .int .i64 1]) rfl Try.call31 hc245) ?_
          refine AO.p rfl (p_assign rfl) ?_
          refine AO.nil ?_
          refine AX.seq ?_
          obtain ⟨r263, hb264, hd265⟩ := bnd_some hd242
          refine AX.cut (fun t' H' => ∃ (b262 : Bool), b262 = r263 ∧ St [] H H' [[(i101, AObj.row false ([.int .i64 a0_0, .slice p_a0_1 a0_1.length c_a0_1]))], oseg p128 (tcells T132), tseg T132, oseg p162 (tcells T166), tseg T166] ∧ Am.Sub [(1, .pointer (some ⟨i101, 0, none⟩)), (4, .slice p128 rs124.length c129), (5, .int .i64 x125), (7, .slice p162 rs158.length c163), (61, .bool b262)] t') ?_ ?_
          · skip
            refine AX.region ?_
            refine AO.p rfl (p_move rfl) ?_
            refine AO.p rfl (p_lss rfl rfl) ?_
            refine AO.p rfl (p_move rfl) ?_
            refine AO.cases (d := 51) rfl (fun c266 => ?_) (fun c266 => ?_)
            · have hd267 := bif_t c266 hb264
              refine AO.gn rfl rfl rfl ?_
              refine AO.gn rfl rfl rfl ?_
              refine AO.gn rfl rfl rfl ?_
              refine AO.gn rfl rfl rfl ?_
              refine AO.p rfl (p_pickT rfl rfl) ?_
              refine AO.p rfl (p_move rfl) ?_
              refine AO.gn rfl rfl rfl ?_
              refine AO.gn rfl rfl rfl ?_
              refine AO.gn rfl rfl rfl ?_
              refine AO.p rfl (p_pickT rfl rfl) ?_
              refine AO.nil ?_
              have S268 := S248.front 7 rfl
              have S269 := S268.front 7 rfl
              have S270 := S269.front 6 rfl
              have S271 := S270.front 6 rfl
              have S272 := S271.front 6 rfl
              have S273 := S272.keep 5
              exact ⟨true, (some_inj hd267), S273, Sub.cons' rfl rfl (Sub.cons' rfl rfl (Sub.cons' rfl rfl (Sub.cons' rfl rfl (Sub.cons' rfl rfl (Sub.nil _)))))⟩
            · have hd274 := bif_f c266 hb264
              refine AO.gp rfl rfl rfl (p_move rfl) ?_
              refine AO.gp rfl rfl rfl (p_move rfl) ?_
              obtain ⟨b275, h276, hd277⟩ := bnd_some hd274
              refine AO.gc rfl rfl rfl (o_call (vs := [.slice p162 rs158.length c163, .slice p128 rs124.length c129]) rfl Try.call18 (W_laws_eqInt64SS fu G246 p162 c163 T166 rs158 t167 (S248.oview (k := 6) rfl B165 (tc_len1 t167 rfl)) (S248.oviewT (k := 7) rfl s168) p128 c129 T132 rs124 t133 (S248.oview (k := 3) rfl B131 (tc_len1 t133 rfl)) (S248.oviewT (k := 4) rfl s134) b275 h276)) ?_
              refine AO.gp rfl rfl rfl (p_not rfl) ?_
              refine AO.p rfl (p_pickF rfl rfl) ?_
              refine AO.p rfl (p_move rfl) ?_
              refine AO.cases (d := 57) rfl (fun c279 => ?_) (fun c279 => ?_)
              · have hd280 := bif_t c279 hd277
                refine AO.gn rfl rfl rfl ?_
                refine AO.gn rfl rfl rfl ?_
                refine AO.gn rfl rfl rfl ?_
                refine AO.p rfl (p_pickT rfl rfl) ?_
                refine AO.nil ?_
                have S281 := S248.front 7 rfl
                have S282 := S281.front 7 rfl
                have S283 := S282.front 6 rfl
                have S284 := S283.front 6 rfl
                have S285 := S284.front 6 rfl
                have S286 := S285.keep 5
                exact ⟨true, (some_inj hd280), S286, Sub.cons' rfl rfl (Sub.cons' rfl rfl (Sub.cons' rfl rfl (Sub.cons' rfl rfl (Sub.cons' rfl rfl (Sub.nil _)))))⟩
              · have hd287 := bif_f c279 hd277
                refine AO.gp rfl rfl rfl (p_move rfl) ?_
                refine AO.gp rfl rfl rfl (p_move rfl) ?_
                refine AO.gp rfl rfl rfl (p_neq rfl rfl) ?_
                refine AO.p rfl (p_pickF rfl rfl) ?_
                refine AO.nil ?_
                have S288 := S248.front 7 rfl
                have S289 := S288.front 7 rfl
                have S290 := S289.front 6 rfl
                have S291 := S290.front 6 rfl
                have S292 := S291.front 6 rfl
                have S293 := S292.keep 5
                exact ⟨(!decide (x159 = x125)), (some_inj hd287), S293, Sub.cons' rfl rfl (Sub.cons' rfl rfl (Sub.cons' rfl rfl (Sub.cons' rfl rfl (Sub.cons' rfl rfl (Sub.nil _)))))⟩
          · rintro t' G295 ⟨b262, rfl, S294, hsub296⟩
            refine AX.sub hsub296 ?_
            refine AX.cond rfl (fun c297 => ?_) (fun c297 => ?_)
            · have hd298 := bif_t c297 hd265
              refine AX.seq ?_
              refine AX.region ?_
              refine AO.p rfl (p_assign rfl) ?_
              refine AO.nil ?_
              refine AX.ret ?_
              obtain rfl := some_inj hd298
              exact ⟨.inr rfl, _, res1 rfl (rv_tmp rfl), rfl, (flatB_ok rfl), S294.hold⟩
            · have hd299 := bif_f c297 hd265
              refine AX.skip ?_
              refine AX.seq ?_
              refine AX.region ?_
              refine AO.p rfl (p_assign rfl) ?_
              refine AO.nil ?_
              refine AX.seq ?_
              refine AX.region ?_
              refine AO.p rfl (p_move rfl) ?_
              refine AO.p rfl (p_move rfl) ?_
              have S300 := S294.front 4 rfl
              have S301 := S300.front 4 rfl
              obtain ⟨⟨x302, rs303⟩, h304, hd305⟩ := bnd_some hd299
              obtain ⟨_, G311, hc310, T306, rfl, S312, t307, s308, l309⟩ := W_laws_markInt64SS fu G295 p162 c163 T166 rs158 t167 B165 s168 1 ((S301).join2.onodup (k := 0) rfl) ((S301).join2.omem (k := 0) rfl) x302 rs303 h304
              have S313 := St.callM (A := [oseg p162 (tcells T166), tseg T166]) S301 S312 (by simp)
              refine AO.c rfl (o_call (vs := [.slice p162 rs158.length c163, .int .i64 1]) rfl Try.call19 hc310) ?_
              refine AO.p rfl (p_assign rfl) ?_
              refine AO.nil ?_
              refine AX.seq ?_
              refine AX.region ?_
              refine AO.p rfl (p_assign rfl) ?_
              refine AO.nil ?_
              refine AX.seq ?_
              refine AX.region ?_
              refine AO.p rfl (p_move rfl) ?_
              refine AO.p rfl (p_move rfl) ?_
              obtain ⟨x314, h315, hd316⟩ := bnd_some hd305
              refine AO.c rfl (o_call (vs := [.slice p162 rs158.length c163, .int .i64 1]) rfl Try.call20 (by have h' := W_laws_heldInt64SS fu G311 p162 c163 T306 rs303 t307 (by rw [show List.length rs303 = rs158.length from (Eq.trans l309 rfl)]; exact (S313.oview (k := 0) rfl B165 (tc_len1 t307 (Eq.trans l309 rfl)))) (S313.oviewT (k := 1) rfl s308) 1 x314 h315; rw [show List.length rs303 = rs158.length from (Eq.trans l309 rfl)] at h'; exact h')) ?_
              refine AO.p rfl (p_assign rfl) ?_
              refine AO.nil ?_
              refine AX.seq ?_
              refine AX.seq ?_
              refine AX.region ?_
              refine AO.p rfl (p_move rfl) ?_
              refine AO.p rfl (p_lss rfl rfl) ?_
              refine AO.nil ?_
              refine AX.cond rfl (fun c318 => ?_) (fun c318 => ?_)
              · have hd319 := bif_t c318 hd316
                refine AX.seq ?_
                refine AX.region ?_
                refine AO.p rfl (p_assign rfl) ?_
                refine AO.nil ?_
                refine AX.ret ?_
                obtain rfl := some_inj hd319
                exact ⟨.inr rfl, _, res1 rfl (rv_tmp rfl), rfl, (flatB_ok rfl), S313.hold⟩
              · have hd320 := bif_f c318 hd316
                refine AX.skip ?_
                refine AX.seq ?_
                refine AX.seq ?_
                refine AX.region ?_
                refine AO.p rfl (p_move rfl) ?_
                refine AO.p rfl (p_move rfl) ?_
                refine AO.p rfl (p_neq rfl rfl) ?_
                refine AO.nil ?_
                refine AX.cond rfl (fun c321 => ?_) (fun c321 => ?_)
                · have hd322 := bif_t c321 hd320
                  refine AX.seq ?_
                  refine AX.region ?_
                  refine AO.p rfl (p_assign rfl) ?_
                  refine AO.nil ?_
                  refine AX.ret ?_
                  obtain rfl := some_inj hd322
                  exact ⟨.inr rfl, _, res1 rfl (rv_tmp rfl), rfl, (flatB_ok rfl), S313.hold⟩
                · have hd323 := bif_f c321 hd320
                  refine AX.skip ?_
                  refine AX.seq ?_
                  refine AX.region ?_
                  refine AO.c rfl (s_loadN (vs := [.int .i64 a0_0, .slice p_a0_1 a0_1.length c_a0_1]) Try.isAgg38 Try.sizeOf38 rfl rfl (row_cells (S313.get (k := 2) rfl))) ?_
                  obtain ⟨⟨x324, rs325⟩, h326, hd327⟩ := bnd_some hd323
                  obtain ⟨_, G334, hc333, p328, c329, rfl, S335, B331, a332⟩ := W_laws_toSchedule fu G311 a0_0 p_a0_1 c_a0_1 a0_1 a_a0_1 (S313.view v_a0_1) x324 rs325 h326
                  have S336 := S313.call S335
                  refine AO.c rfl (o_call (vs := [.agg [.int .i64 a0_0, .slice p_a0_1 a0_1.length c_a0_1].toArray]) rfl Try.call28 hc333) ?_
                  obtain ⟨⟨rs337, x338⟩, h339, hd340⟩ := bnd_some hd327
                  obtain ⟨_, G349, hc348, p341, c342, T345, rfl, S350, B344, t346, s347⟩ := W_impl_TypesOf fu G334 x324 p328 c329 rs325 a332 (S336.oview (k := 0) rfl B331 (flat_len1 a332 rfl)) (B331.cu) rs337 x338 h339
                  have S351 := S336.call S350
                  refine AO.c rfl (o_call (vs := [.agg [.int .i64 x324, .slice p328 rs325.length c329].toArray]) rfl Try.call29 hc348) ?_
                  refine AO.p rfl (p_move rfl) ?_
                  refine AO.p rfl (p_extract rfl rfl) ?_
                  refine AO.p rfl (p_extract rfl rfl) ?_
                  refine AO.p rfl (p_assign rfl) ?_
                  refine AO.p rfl (p_assign rfl) ?_
                  refine AO.nil ?_
                  refine AX.seq ?_
                  obtain ⟨r361, hb362, hd363⟩ := bnd_some hd340
                  refine AX.cut (fun t' H' => ∃ (b360 : Bool), b360 = r361 ∧ St [] H H' [oseg p162 (tcells T306), tseg T306] ∧ Am.Sub [(7, .slice p162 rs158.length c163), (10, .int .i64 x302), (87, .bool b360)] t') ?_ ?_
                  · skip
                    refine AX.region ?_
                    refine AO.p rfl (p_move rfl) ?_
                    refine AO.p rfl (p_move rfl) ?_
                    obtain ⟨b364, h365, hd366⟩ := bnd_some hb362
                    refine AO.c rfl (o_call (vs := [.slice p341 rs337.length c342, .slice p128 rs124.length c129]) rfl Try.call18 (W_laws_eqInt64SS fu G349 p341 c342 T345 rs337 t346 (S351.oview (k := 0) rfl B344 (tc_len1 t346 rfl)) (S351.oviewT (k := 1) rfl s347) p128 c129 T132 rs124 t133 (S351.oview (k := 6) rfl B131 (tc_len1 t133 rfl)) (S351.oviewT (k := 7) rfl s134) b364 h365)) ?_
                    refine AO.p rfl (p_not rfl) ?_
                    refine AO.p rfl (p_move rfl) ?_
                    refine AO.cases (d := 83) rfl (fun c368 => ?_) (fun c368 => ?_)
                    · have hd369 := bif_t c368 hd366
                      refine AO.gn rfl rfl rfl ?_
                      refine AO.gn rfl rfl rfl ?_
                      refine AO.gn rfl rfl rfl ?_
                      refine AO.p rfl (p_pickT rfl rfl) ?_
                      refine AO.nil ?_
                      have S370 := S351.front 4 rfl
                      have S371 := S370.front 4 rfl
                      have S372 := S371.keep 2
                      exact ⟨true, (some_inj hd369), S372, Sub.cons' rfl rfl (Sub.cons' rfl rfl (Sub.cons' rfl rfl (Sub.nil _)))⟩
                    · have hd373 := bif_f c368 hd366
                      refine AO.gp rfl rfl rfl (p_move rfl) ?_
                      refine AO.gp rfl rfl rfl (p_move rfl) ?_
                      refine AO.gp rfl rfl rfl (p_neq rfl rfl) ?_
                      refine AO.p rfl (p_pickF rfl rfl) ?_
                      refine AO.nil ?_
                      have S374 := S351.front 4 rfl
                      have S375 := S374.front 4 rfl
                      have S376 := S375.keep 2
                      exact ⟨(!decide (x338 = x125)), (some_inj hd373), S376, Sub.cons' rfl rfl (Sub.cons' rfl rfl (Sub.cons' rfl rfl (Sub.nil _)))⟩
                  · rintro t' G378 ⟨b360, rfl, S377, hsub379⟩
                    refine AX.sub hsub379 ?_
                    refine AX.cond rfl (fun c380 => ?_) (fun c380 => ?_)
                    · have hd381 := bif_t c380 hd363
                      refine AX.seq ?_
                      refine AX.region ?_
                      refine AO.p rfl (p_assign rfl) ?_
                      refine AO.nil ?_
                      refine AX.ret ?_
                      obtain rfl := some_inj hd381
                      exact ⟨.inr rfl, _, res1 rfl (rv_tmp rfl), rfl, (flatB_ok rfl), S377.hold⟩
                    · have hd382 := bif_f c380 hd363
                      refine AX.skip ?_
                      refine AX.seq ?_
                      refine AX.region ?_
                      refine AO.p rfl (p_assign rfl) ?_
                      refine AO.nil ?_
                      refine AX.seq ?_
                      refine AX.region ?_
                      refine AO.p rfl (p_move rfl) ?_
                      refine AO.p rfl (p_move rfl) ?_
                      obtain ⟨x383, h384, hd385⟩ := bnd_some hd382
                      refine AO.c rfl (o_call (vs := [.slice p162 rs158.length c163, .int .i64 1]) rfl Try.call20 (by have h' := W_laws_heldInt64SS fu G378 p162 c163 T306 rs303 t307 (by rw [show List.length rs303 = rs158.length from (Eq.trans l309 rfl)]; exact (S377.oview (k := 0) rfl B165 (tc_len1 t307 (Eq.trans l309 rfl)))) (S377.oviewT (k := 1) rfl s308) 1 x383 h384; rw [show List.length rs303 = rs158.length from (Eq.trans l309 rfl)] at h'; exact h')) ?_
                      refine AO.p rfl (p_assign rfl) ?_
                      refine AO.nil ?_
                      refine AX.seq ?_
                      refine AX.seq ?_
                      refine AX.region ?_
                      refine AO.p rfl (p_move rfl) ?_
                      refine AO.p rfl (p_lss rfl rfl) ?_
                      refine AO.nil ?_
                      refine AX.cond rfl (fun c387 => ?_) (fun c387 => ?_)
                      · have hd388 := bif_t c387 hd385
                        refine AX.seq ?_
                        refine AX.region ?_
                        refine AO.p rfl (p_assign rfl) ?_
                        refine AO.nil ?_
                        refine AX.ret ?_
                        obtain rfl := some_inj hd388
                        exact ⟨.inr rfl, _, res1 rfl (rv_tmp rfl), rfl, (flatB_ok rfl), S377.hold⟩
                      · have hd389 := bif_f c387 hd385
                        refine AX.skip ?_
                        refine AX.seq ?_
                        refine AX.seq ?_
                        refine AX.region ?_
                        refine AO.p rfl (p_move rfl) ?_
                        refine AO.p rfl (p_move rfl) ?_
                        refine AO.p rfl (p_neq rfl rfl) ?_
                        refine AO.nil ?_
                        refine AX.cond rfl (fun c390 => ?_) (fun c390 => ?_)
                        · have hd391 := bif_t c390 hd389
                          refine AX.seq ?_
                          refine AX.region ?_
                          refine AO.p rfl (p_assign rfl) ?_
                          refine AO.nil ?_
                          refine AX.ret ?_
                          obtain rfl := some_inj hd391
                          exact ⟨.inr rfl, _, res1 rfl (rv_tmp rfl), rfl, (flatB_ok rfl), S377.hold⟩
                        · have hd392 := bif_f c390 hd389
                          refine AX.skip ?_
                          refine AX.seq ?_
                          refine AX.region ?_
                          refine AO.p rfl (p_assign rfl) ?_
                          refine AO.nil ?_
                          refine AX.ret ?_
                          obtain rfl := some_inj hd392
                          exact ⟨.inr rfl, _, res1 rfl (rv_tmp rfl), rfl, (flatB_ok rfl), S377.hold⟩

set_option maxHeartbeats 4000000 in
theorem W_laws_FnExactIsPerfect (fu : Nat) (H : AHeap) (a0_0 : Int) (p_a0_1 : Option Addr) (c_a0_1 : Nat) (a0_1 : List (List Int)) (a_a0_1 : All 14 a0_1) (v_a0_1 : Vw H p_a0_1 a0_1.length c_a0_1 (ints a0_1.flatten)) (r0 : Bool) (hd : D_laws_FnExactIsPerfect fu a0_0 a0_1 = some r0) : ACall Try.prog 6 [.agg [.int .i64 a0_0, .slice p_a0_1 a0_1.length c_a0_1].toArray] H (.bool r0) H := by
  refine ACall.bodyP (N := 40) [(0, .agg [.int .i64 a0_0, .slice p_a0_1 a0_1.length c_a0_1].toArray)] Try.func6 rfl rfl rfl rfl ?_
  unfold D_laws_FnExactIsPerfect at hd
  have S0 : St [] H H [] := St.nil H
  refine AX.seq ?_
  refine AX.region ?_
  obtain ⟨G100, i101, hii101, hHG100, S102⟩ := S0.new (AObj.row false ([.int .i64 a0_0, .slice p_a0_1 a0_1.length c_a0_1]))
  refine AO.c rfl (s_box (i := i101) (cs := [.int .i64 a0_0, .slice p_a0_1 a0_1.length c_a0_1]) rfl hii101 rfl hHG100) ?_
  refine AO.p rfl (p_assign rfl) ?_
  refine AO.nil ?_
  refine AX.seq ?_
  refine AX.region ?_
  refine AO.p rfl (p_assign rfl) ?_
  refine AO.nil ?_
  refine AX.seq ?_
  refine AX.region ?_
  refine AO.c rfl (s_loadN (vs := [.int .i64 a0_0, .slice p_a0_1 a0_1.length c_a0_1]) Try.isAgg38 Try.sizeOf38 rfl rfl (row_cells (S102.get (k := 0) rfl))) ?_
  refine AO.p rfl (p_move rfl) ?_
  obtain ⟨x104, h105, hd106⟩ := bnd_some hd
  refine AO.c rfl (o_call (vs := [.agg [.int .i64 a0_0, .slice p_a0_1 a0_1.length c_a0_1].toArray, .int .i64 1048576]) rfl Try.call26 (W_laws_szSchedule fu G100 a0_0 p_a0_1 c_a0_1 a0_1 a_a0_1 (S102.view v_a0_1) 1048576 x104 h105)) ?_
  refine AO.p rfl (p_assign rfl) ?_
  refine AO.nil ?_
  refine AX.seq ?_
  refine AX.seq ?_
  refine AX.region ?_
  refine AO.p rfl (p_move rfl) ?_
  refine AO.p rfl (p_lss rfl rfl) ?_
  refine AO.nil ?_
  refine AX.cond rfl (fun c108 => ?_) (fun c108 => ?_)
  · have hd109 := bif_t c108 hd106
    refine AX.seq ?_
    refine AX.region ?_
    refine AO.p rfl (p_assign rfl) ?_
    refine AO.nil ?_
    refine AX.ret ?_
    obtain rfl := some_inj hd109
    exact ⟨.inr rfl, _, res1 rfl (rv_tmp rfl), rfl, (flatB_ok rfl), S102.hold⟩
  · have hd110 := bif_f c108 hd106
    refine AX.skip ?_
    refine AX.seq ?_
    refine AX.region ?_
    refine AO.c rfl (s_loadN (vs := [.int .i64 a0_0, .slice p_a0_1 a0_1.length c_a0_1]) Try.isAgg38 Try.sizeOf38 rfl rfl (row_cells (S102.get (k := 0) rfl))) ?_
    obtain ⟨⟨x111, rs112⟩, h113, hd114⟩ := bnd_some hd110
    obtain ⟨_, G121, hc120, p115, c116, rfl, S122, B118, a119⟩ := W_laws_toSchedule fu G100 a0_0 p_a0_1 c_a0_1 a0_1 a_a0_1 (S102.view v_a0_1) x111 rs112 h113
    have S123 := S102.call S122
    refine AO.c rfl (o_call (vs := [.agg [.int .i64 a0_0, .slice p_a0_1 a0_1.length c_a0_1].toArray]) rfl Try.call28 hc120) ?_
    obtain ⟨⟨b124, x125⟩, h126, hd127⟩ := bnd_some hd114
    refine AO.c rfl (o_call (vs := [.agg [.int .i64 x111, .slice p115 rs112.length c116].toArray]) rfl Try.call32 (W_spec_IsPerfect fu G121 x111 p115 c116 rs112 a119 (S123.oview (k := 0) rfl B118 (flat_len1 a119 rfl)) b124 x125 h126)) ?_
    refine AO.p rfl (p_move rfl) ?_
    refine AO.p rfl (p_extract rfl rfl) ?_
    refine AO.p rfl (p_extract rfl rfl) ?_
    refine AO.p rfl (p_assign rfl) ?_
    refine AO.p rfl (p_assign rfl) ?_
    refine AO.nil ?_
    refine AX.seq ?_
    refine AX.region ?_
    refine AO.c rfl (s_loadN (vs := [.int .i64 a0_0, .slice p_a0_1 a0_1.length c_a0_1]) Try.isAgg38 Try.sizeOf38 rfl rfl (row_cells (S123.get (k := 1) rfl))) ?_
    obtain ⟨⟨x129, rs130⟩, h131, hd132⟩ := bnd_some hd127
    obtain ⟨_, G139, hc138, p133, c134, rfl, S140, B136, a137⟩ := W_laws_toSchedule fu G121 a0_0 p_a0_1 c_a0_1 a0_1 a_a0_1 (S123.view v_a0_1) x129 rs130 h131
    have S141 := S123.call S140
    refine AO.c rfl (o_call (vs := [.agg [.int .i64 a0_0, .slice p_a0_1 a0_1.length c_a0_1].toArray]) rfl Try.call28 hc138) ?_
    obtain ⟨G142, i143, hii143, hHG142, S144⟩ := S141.new (AObj.row false ([.int .i64 0, .slice none 0 0]))
    refine AO.c rfl (s_alloc (i := i143) (cs := [.int .i64 0, .slice none 0 0]) Try.zeroValue43 rfl rfl hii143 hHG142) ?_
    obtain ⟨G146, hHG146, S147⟩ := S144.set (k := 0) (i := i143) rfl (AObj.row false ([.int .i64 x129, .slice p133 rs130.length c134]))
    refine AO.s (s_storeAll (vs := [.int .i64 x129, .slice p133 rs130.length c134]) Try.sizeOf43 rfl rfl (ones_list rfl) (S144.get (k := 0) rfl) rfl rfl hHG146) ?_
    refine AO.nil ?_
    refine AX.seq ?_
    refine AX.region ?_
    refine AO.c rfl (s_loadN (vs := [.int .i64 x129, .slice p133 rs130.length c134]) Try.isAgg43 Try.sizeOf43 rfl rfl (row_cells (S147.get (k := 0) rfl))) ?_
    obtain ⟨⟨b148, x149⟩, h150, hd151⟩ := bnd_some hd132
    refine AO.c rfl (o_call (vs := [.agg [.int .i64 x129, .slice p133 rs130.length c134].toArray]) rfl Try.call33 (W_impl_IsPerfect fu G146 x129 p133 c134 rs130 a137 (S147.oview (k := 1) rfl B136 (flat_len1 a137 rfl)) (B136.cu) b148 x149 h150)) ?_
    refine AO.p rfl (p_move rfl) ?_
    refine AO.p rfl (p_extract rfl rfl) ?_
    refine AO.p rfl (p_extract rfl rfl) ?_
    refine AO.p rfl (p_assign rfl) ?_
    refine AO.p rfl (p_assign rfl) ?_
    refine AO.nil ?_
    refine AX.seq ?_
    refine AX.cut (fun t' H' => G146 = H' ∧ Am.Sub [(1, .pointer (some ⟨i101, 0, none⟩)), (6, .pointer (some ⟨i143, 0, none⟩)), (34, .bool ((!(b148 == b124)) || (!decide (x149 = x125))))] t') ?_ ?_
    · skip
      refine AX.region ?_
      refine AO.p rfl (p_move rfl) ?_
      refine AO.p rfl (p_move rfl) ?_
      refine AO.p rfl (p_bneq Try.underlying4 rfl rfl) ?_
      refine AO.p rfl (p_move rfl) ?_
      refine AO.cases (d := 30) rfl (fun c156 => ?_) (fun c156 => ?_)
      · skip
        refine AO.gn rfl rfl rfl ?_
        refine AO.gn rfl rfl rfl ?_
        refine AO.gn rfl rfl rfl ?_
        refine AO.p rfl (p_pickT rfl rfl) ?_
        refine AO.nil ?_
        exact ⟨rfl, Sub.cons' rfl rfl (Sub.cons' rfl rfl (Sub.cons' rfl (bool_eq (by simp only [c156, Bool.true_and, Bool.false_and, Bool.and_true, Bool.and_false, Bool.true_or, Bool.false_or, Bool.or_true, Bool.or_false, Bool.not_true, Bool.not_false, cond_true, cond_false])) (Sub.nil _)))⟩
      · skip
        refine AO.gp rfl rfl rfl (p_move rfl) ?_
        refine AO.gp rfl rfl rfl (p_move rfl) ?_
        refine AO.gp rfl rfl rfl (p_neq rfl rfl) ?_
        refine AO.p rfl (p_pickF rfl rfl) ?_
        refine AO.nil ?_
        exact ⟨rfl, Sub.cons' rfl rfl (Sub.cons' rfl rfl (Sub.cons' rfl (bool_eq (by simp only [c156, Bool.true_and, Bool.false_and, Bool.and_true, Bool.and_false, Bool.true_or, Bool.false_or, Bool.or_true, Bool.or_false, Bool.not_true, Bool.not_false, cond_true, cond_false])) (Sub.nil _)))⟩
    · rintro t' _ ⟨rfl, hsub157⟩
      refine AX.sub hsub157 ?_
      refine AX.cond rfl (fun c158 => ?_) (fun c158 => ?_)
      · have hd159 := bif_t c158 hd151
        refine AX.seq ?_
        refine AX.region ?_
        refine AO.p rfl (p_assign rfl) ?_
        refine AO.nil ?_
        refine AX.ret ?_
        obtain rfl := some_inj hd159
        exact ⟨.inr rfl, _, res1 rfl (rv_tmp rfl), rfl, (flatB_ok rfl), S147.hold⟩
      · have hd160 := bif_f c158 hd151
        refine AX.skip ?_
        refine AX.seq ?_
        refine AX.seq ?_
        refine DR.startS [false, false, true, true, false] mix (by kernel_rfl) (fun hst => ?_)
        refine DR.r rfl rfl (r_loadN (vs := [.int .i64 x129, .slice p133 rs130.length c134]) rfl Try.isAgg43 Try.sizeOf43 rfl) (many_row (row_cells (S147.get (k := 0) rfl)) (bel_cons (.of_flat0 rfl) (bel_cons (S147.oin (k := 1) rfl B136).bel bel_nil))) ?_
        refine DR.r rfl rfl (r_loadN (vs := [.int .i64 a0_0, .slice p_a0_1 a0_1.length c_a0_1]) rfl Try.isAgg38 Try.sizeOf38 rfl) (many_row (row_cells (S147.get (k := 3) rfl)) (bel_cons (.of_flat0 rfl) (bel_cons (S147.view v_a0_1).inn.bel bel_nil))) ?_
        obtain ⟨⟨x161, rs162⟩, h163, hd164⟩ := bnd_some hd160
        obtain ⟨_, G171, hc170, p165, c166, rfl, S172, B168, a169⟩ := W_laws_toSchedule fu G146 a0_0 p_a0_1 c_a0_1 a0_1 a_a0_1 (S147.view v_a0_1) x161 rs162 h163
        have S173 := S147.call S172
        refine DR.w rfl rfl (o_call (vs := [.agg [.int .i64 a0_0, .slice p_a0_1 a0_1.length c_a0_1].toArray]) rfl Try.call28 hc170) (S172.len) ?_
        obtain ⟨b174, h175, hd176⟩ := bnd_some hd164
        refine DR.w rfl rfl (o_call (vs := [.agg [.int .i64 x129, .slice p133 rs130.length c134].toArray, .agg [.int .i64 x161, .slice p165 rs162.length c166].toArray]) rfl Try.call30 (W_laws_eqSchedule fu G171 x129 p133 c134 rs130 a137 (S173.oview (k := 2) rfl B136 (flat_len1 a137 rfl)) x161 p165 c166 rs162 a169 (S173.oview (k := 0) rfl B168 (flat_len1 a169 rfl)) b174 h175)) (Nat.le_refl _) ?_
        refine DR.p rfl rfl (p_not rfl) ?_
        refine DR.nil 5 [(0, 2)] hst (by kernel_rfl) ⟨(rdN (fun h => S172.hold _ h)), trivial⟩ ?_
        refine AX.cond rfl (fun c178 => ?_) (fun c178 => ?_)
        · have hd179 := bif_t c178 hd176
          refine AX.seq ?_
          refine AX.region ?_
          refine AO.p rfl (p_assign rfl) ?_
          refine AO.nil ?_
          refine AX.ret ?_
          obtain rfl := some_inj hd179
          exact ⟨.inr rfl, _, res1 rfl (rv_tmp rfl), rfl, (flatB_ok rfl), S173.hold⟩
        · have hd180 := bif_f c178 hd176
          refine AX.skip ?_
          refine AX.seq ?_
          refine AX.region ?_
          refine AO.p rfl (p_assign rfl) ?_
          refine AO.nil ?_
          refine AX.ret ?_
          obtain rfl := some_inj hd180
          exact ⟨.inr rfl, _, res1 rfl (rv_tmp rfl), rfl, (flatB_ok rfl), S173.hold⟩

end Go.Proofs.Ytnmbjedijgcncaa
