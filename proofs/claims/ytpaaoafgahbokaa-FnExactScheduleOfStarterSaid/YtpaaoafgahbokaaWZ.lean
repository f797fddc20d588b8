/-
  The program computes that, printed by a program. No condition.
-/
import Derived.Test.YtpaaoafgahbokaaDZ
import Derived.Test.YtpaaoafgahbokaaWJ
import Derived.Test.YtpaaoafgahbokaaProg
import Derived.KernelRfl
namespace Go.Proofs.Ytpaaoafgahbokaa
open Go Go.RowKit Am
set_option linter.unusedVariables false
set_option linter.unusedSimpArgs false
set_option maxRecDepth 20000
set_option maxHeartbeats 4000000 in
theorem W_laws_FnExactScheduleOfStarter (fu : Nat) (H : AHeap) (a0 : Int) (p_a1 : Option Addr) (c_a1 : Nat) (T_a1 : Tb) (a1 : List (List Int)) (t_a1 : trows T_a1 = a1) (v_a1 : Vw H p_a1 a1.length c_a1 (tcells T_a1)) (w_a1 : TVw H T_a1) (r0 : Bool) (hd : D_laws_FnExactScheduleOfStarter fu a0 a1 = some r0) : ACall Try.prog 8 [.int .i64 a0, .slice p_a1 a1.length c_a1] H (.bool r0) H := by
  refine ACall.bodyP (N := 101) [(0, .int .i64 a0), (1, .slice p_a1 a1.length c_a1)] Try.func8 rfl rfl rfl rfl ?_
  unfold D_laws_FnExactScheduleOfStarter at hd
  have S0 : St [] H H [] := St.nil H
  refine AX.seq ?_
  refine AX.region ?_
  refine AO.p rfl (p_assign rfl) ?_
  refine AO.nil ?_
  refine AX.seq ?_
  refine AX.region ?_
  refine AO.p rfl (p_assign rfl) ?_
  refine AO.nil ?_
  refine AX.seq ?_
  refine AX.region ?_
  refine AO.p rfl (p_move rfl) ?_
  refine AO.p rfl (p_move rfl) ?_
  obtain ⟨x100, h101, hd102⟩ := bnd_some hd
  refine AO.c rfl (o_call (vs := [.slice p_a1 a1.length c_a1, .int .i64 1048576]) rfl Try.call34 (W_laws_szInt64SS fu H p_a1 c_a1 T_a1 a1 t_a1 (S0.view v_a1) (S0.tview w_a1) 1048576 x100 h101)) ?_
  refine AO.p rfl (p_assign rfl) ?_
  refine AO.nil ?_
  refine AX.seq ?_
  refine AX.seq ?_
  refine AX.region ?_
  refine AO.p rfl (p_move rfl) ?_
  refine AO.p rfl (p_lss rfl rfl) ?_
  refine AO.nil ?_
  refine AX.cond rfl (fun c104 => ?_) (fun c104 => ?_)
  · have hd105 := bif_t c104 hd102
    refine AX.seq ?_
    refine AX.region ?_
    refine AO.p rfl (p_assign rfl) ?_
    refine AO.nil ?_
    refine AX.ret ?_
    obtain rfl := some_inj hd105
    exact ⟨.inr rfl, _, res1 rfl (rv_tmp rfl), rfl, (flatB_ok rfl), S0.hold⟩
  · have hd106 := bif_f c104 hd102
    refine AX.skip ?_
    refine AX.seq ?_
    refine AX.region ?_
    refine AO.p rfl (p_move rfl) ?_
    refine AO.p rfl (p_move rfl) ?_
    obtain ⟨rs107, h108, hd109⟩ := bnd_some hd106
    obtain ⟨_, G118, hc117, p110, c111, T114, rfl, S119, B113, t115, s116⟩ := W_laws_toInt64SS fu H p_a1 c_a1 T_a1 a1 t_a1 (S0.view v_a1) (S0.tview w_a1) rs107 h108
    have S120 := S0.call S119
    refine AO.c rfl (o_call (vs := [.slice p_a1 a1.length c_a1]) rfl Try.call36 hc117) ?_
    obtain ⟨⟨x121, rs122, x123⟩, h124, hd125⟩ := bnd_some hd109
    obtain ⟨_, G132, hc131, p126, c127, rfl, S133, B129, a130⟩ := W_spec_ScheduleOfStarter fu G118 a0 p110 c111 T114 rs107 t115 (S120.oview (k := 0) rfl B113 (tc_len1 t115 rfl)) (S120.oviewT (k := 1) rfl s116) x121 rs122 x123 h124
    have S134 := S120.call S133
    refine AO.c rfl (o_call (vs := [.int .i64 a0, .slice p110 rs107.length c111]) rfl Try.call40 hc131) ?_
    refine AO.p rfl (p_move rfl) ?_
    refine AO.p rfl (p_extract rfl rfl) ?_
    refine AO.p rfl (p_extract rfl rfl) ?_
    obtain ⟨G135, i136, hii136, hHG135, S137⟩ := S134.new (AObj.row false ([.int .i64 0, .slice none 0 0]))
    refine AO.c rfl (s_alloc (i := i136) (cs := [.int .i64 0, .slice none 0 0]) Try.zeroValue39 rfl rfl hii136 hHG135) ?_
    obtain ⟨G139, hHG139, S140⟩ := S137.set (k := 0) (i := i136) rfl (AObj.row false ([.int .i64 x121, .slice p126 rs122.length c127]))
    refine AO.s (s_storeAll (vs := [.int .i64 x121, .slice p126 rs122.length c127]) Try.sizeOf39 rfl rfl (ones_list rfl) (S137.get (k := 0) rfl) rfl rfl hHG139) ?_
    refine AO.p rfl (p_assign rfl) ?_
    refine AO.nil ?_
    refine AX.seq ?_
    refine AX.region ?_
    refine AO.p rfl (p_move rfl) ?_
    obtain ⟨rs141, h142, hd143⟩ := bnd_some hd125
    obtain ⟨_, G152, hc151, p144, c145, T148, rfl, S153, B147, t149, s150⟩ := W_laws_toInt64SS fu G139 p_a1 c_a1 T_a1 a1 t_a1 (S140.view v_a1) (S140.tview w_a1) rs141 h142
    have S154 := S140.call S153
    refine AO.c rfl (o_call (vs := [.slice p_a1 a1.length c_a1]) rfl Try.call36 hc151) ?_
    refine AO.p rfl (p_assign rfl) ?_
    refine AO.nil ?_
    refine AX.seq ?_
    refine AX.region ?_
    refine AO.p rfl (p_move rfl) ?_
    refine AO.p rfl (p_move rfl) ?_
    obtain ⟨⟨x155, rs156, x157⟩, h158, hd159⟩ := bnd_some hd143
    obtain ⟨_, G166, hc165, p160, c161, rfl, S167, B163, a164⟩ := W_impl_ScheduleOfStarter fu G152 a0 p144 c145 T148 rs141 t149 (S154.oview (k := 0) rfl B147 (tc_len1 t149 rfl)) (S154.oviewT (k := 1) rfl s150) x155 rs156 x157 h158
    have S168 := S154.call S167
    refine AO.c rfl (o_call (vs := [.int .i64 a0, .slice p144 rs141.length c145]) rfl Try.call41 hc165) ?_
    refine AO.p rfl (p_move rfl) ?_
    refine AO.p rfl (p_extract rfl rfl) ?_
    refine AO.p rfl (p_extract rfl rfl) ?_
    obtain ⟨G169, i170, hii170, hHG169, S171⟩ := S168.new (AObj.row false ([.int .i64 0, .slice none 0 0]))
    refine AO.c rfl (s_alloc (i := i170) (cs := [.int .i64 0, .slice none 0 0]) Try.zeroValue39 rfl rfl hii170 hHG169) ?_
    obtain ⟨G173, hHG173, S174⟩ := S171.set (k := 0) (i := i170) rfl (AObj.row false ([.int .i64 x155, .slice p160 rs156.length c161]))
    refine AO.s (s_storeAll (vs := [.int .i64 x155, .slice p160 rs156.length c161]) Try.sizeOf39 rfl rfl (ones_list rfl) (S171.get (k := 0) rfl) rfl rfl hHG173) ?_
    refine AO.p rfl (p_assign rfl) ?_
    refine AO.nil ?_
    refine AX.seq ?_
    obtain ⟨r188, hb189, hd190⟩ := bnd_some hd159
    refine AX.cut (fun t' H' => ∃ (b187 : Bool), b187 = r188 ∧ St [] H H' [[(i136, AObj.row false ([.int .i64 x121, .slice p126 rs122.length c127]))], oseg p126 (ints rs122.flatten), oseg p144 (tcells T148), tseg T148, [(i170, AObj.row false ([.int .i64 x155, .slice p160 rs156.length c161]))], oseg p160 (ints rs156.flatten)] ∧ Am.Sub [(0, .int .i64 a0), (1, .slice p_a1 a1.length c_a1), (6, .pointer (some ⟨i136, 0, none⟩)), (7, .int .i64 x123), (8, .slice p144 rs141.length c145), (9, .pointer (some ⟨i170, 0, none⟩)), (10, .int .i64 x157), (44, .bool b187)] t') ?_ ?_
    · skip
      refine AX.region ?_
      refine AO.c rfl (s_loadN (vs := [.int .i64 x155, .slice p160 rs156.length c161]) Try.isAgg39 Try.sizeOf39 rfl rfl (row_cells (S174.get (k := 0) rfl))) ?_
      refine AO.c rfl (s_loadN (vs := [.int .i64 x121, .slice p126 rs122.length c127]) Try.isAgg39 Try.sizeOf39 rfl rfl (row_cells (S174.get (k := 4) rfl))) ?_
      obtain ⟨b191, h192, hd193⟩ := bnd_some hb189
      refine AO.c rfl (o_call (vs := [.agg [.int .i64 x155, .slice p160 rs156.length c161].toArray, .agg [.int .i64 x121, .slice p126 rs122.length c127].toArray]) rfl Try.call26 (W_laws_eqSchedule fu G173 x155 p160 c161 rs156 a164 (S174.oview (k := 1) rfl B163 (flat_len1 a164 rfl)) x121 p126 c127 rs122 a130 (S174.oview (k := 5) rfl B129 (flat_len1 a130 rfl)) b191 h192)) ?_
      refine AO.p rfl (p_not rfl) ?_
      refine AO.p rfl (p_move rfl) ?_
      refine AO.cases (d := 40) rfl (fun c195 => ?_) (fun c195 => ?_)
      · have hd196 := bif_t c195 hd193
        refine AO.gn rfl rfl rfl ?_
        refine AO.gn rfl rfl rfl ?_
        refine AO.gn rfl rfl rfl ?_
        refine AO.p rfl (p_pickT rfl rfl) ?_
        refine AO.nil ?_
        have S197 := S174.front 1 rfl
        have S198 := S197.front 1 rfl
        have S199 := S198.front 3 rfl
        have S200 := S199.front 3 rfl
        have S201 := S200.front 5 rfl
        have S202 := S201.front 5 rfl
        have S203 := S202.keep 6
        exact ⟨true, (some_inj hd196), S203, Sub.cons' rfl rfl (Sub.cons' rfl rfl (Sub.cons' rfl rfl (Sub.cons' rfl rfl (Sub.cons' rfl rfl (Sub.cons' rfl rfl (Sub.cons' rfl rfl (Sub.cons' rfl rfl (Sub.nil _))))))))⟩
      · have hd204 := bif_f c195 hd193
        refine AO.gp rfl rfl rfl (p_move rfl) ?_
        refine AO.gp rfl rfl rfl (p_move rfl) ?_
        refine AO.gp rfl rfl rfl (p_neq rfl rfl) ?_
        refine AO.p rfl (p_pickF rfl rfl) ?_
        refine AO.nil ?_
        have S205 := S174.front 1 rfl
        have S206 := S205.front 1 rfl
        have S207 := S206.front 3 rfl
        have S208 := S207.front 3 rfl
        have S209 := S208.front 5 rfl
        have S210 := S209.front 5 rfl
        have S211 := S210.keep 6
        exact ⟨(!decide (x157 = x123)), (some_inj hd204), S211, Sub.cons' rfl rfl (Sub.cons' rfl rfl (Sub.cons' rfl rfl (Sub.cons' rfl rfl (Sub.cons' rfl rfl (Sub.cons' rfl rfl (Sub.cons' rfl rfl (Sub.cons' rfl rfl (Sub.nil _))))))))⟩
    · rintro t' G213 ⟨b187, rfl, S212, hsub214⟩
      refine AX.sub hsub214 ?_
      refine AX.cond rfl (fun c215 => ?_) (fun c215 => ?_)
      · have hd216 := bif_t c215 hd190
        refine AX.seq ?_
        refine AX.region ?_
        refine AO.p rfl (p_assign rfl) ?_
        refine AO.nil ?_
        refine AX.ret ?_
        obtain rfl := some_inj hd216
        exact ⟨.inr rfl, _, res1 rfl (rv_tmp rfl), rfl, (flatB_ok rfl), S212.hold⟩
      · have hd217 := bif_f c215 hd190
        refine AX.skip ?_
        refine AX.seq ?_
        refine AX.seq ?_
        refine AX.region ?_
        refine AO.p rfl (p_move rfl) ?_
        refine AO.p rfl (p_move rfl) ?_
        obtain ⟨rs218, h219, hd220⟩ := bnd_some hd217
        obtain ⟨_, G229, hc228, p221, c222, T225, rfl, S230, B224, t226, s227⟩ := W_laws_toInt64SS fu G213 p_a1 c_a1 T_a1 a1 t_a1 (S212.view v_a1) (S212.tview w_a1) rs218 h219
        have S231 := S212.call S230
        refine AO.c rfl (o_call (vs := [.slice p_a1 a1.length c_a1]) rfl Try.call36 hc228) ?_
        obtain ⟨b232, h233, hd234⟩ := bnd_some hd220
        refine AO.c rfl (o_call (vs := [.slice p144 rs141.length c145, .slice p221 rs218.length c222]) rfl Try.call31 (W_laws_eqInt64SS fu G229 p144 c145 T148 rs141 t149 (S231.oview (k := 4) rfl B147 (tc_len1 t149 rfl)) (S231.oviewT (k := 5) rfl s150) p221 c222 T225 rs218 t226 (S231.oview (k := 0) rfl B224 (tc_len1 t226 rfl)) (S231.oviewT (k := 1) rfl s227) b232 h233)) ?_
        refine AO.p rfl (p_not rfl) ?_
        refine AO.nil ?_
        refine AX.cond rfl (fun c236 => ?_) (fun c236 => ?_)
        · have hd237 := bif_t c236 hd234
          refine AX.seq ?_
          refine AX.region ?_
          refine AO.p rfl (p_assign rfl) ?_
          refine AO.nil ?_
          refine AX.ret ?_
          obtain rfl := some_inj hd237
          exact ⟨.inr rfl, _, res1 rfl (rv_tmp rfl), rfl, (flatB_ok rfl), S231.hold⟩
        · have hd238 := bif_f c236 hd234
          refine AX.skip ?_
          refine AX.seq ?_
          refine AX.region ?_
          refine AO.p rfl (p_assign rfl) ?_
          refine AO.nil ?_
          refine AX.seq ?_
          refine AX.region ?_
          refine AO.p rfl (p_move rfl) ?_
          refine AO.p rfl (p_move rfl) ?_
          have S239 := S231.front 5 rfl
          have S240 := S239.front 5 rfl
          obtain ⟨⟨x241, rs242⟩, h243, hd244⟩ := bnd_some hd238
          obtain ⟨_, G250, hc249, T245, rfl, S251, t246, s247, l248⟩ := W_laws_markInt64SS fu G229 p144 c145 T148 rs141 t149 B147 s150 1 ((S240).join2.onodup (k := 0) rfl) ((S240).join2.omem (k := 0) rfl) x241 rs242 h243
          have S252 := St.callM (A := [oseg p144 (tcells T148), tseg T148]) S240 S251 (by simp)
          refine AO.c rfl (o_call (vs := [.slice p144 rs141.length c145, .int .i64 1]) rfl Try.call32 hc249) ?_
          refine AO.p rfl (p_assign rfl) ?_
          refine AO.nil ?_
          refine AX.seq ?_
          obtain ⟨r268, hb269, hd270⟩ := bnd_some hd244
          refine AX.cut (fun t' H' => ∃ (b267 : Bool), b267 = r268 ∧ St [] H H' [[(i136, AObj.row false ([.int .i64 x121, .slice p126 rs122.length c127]))], oseg p126 (ints rs122.flatten), [(i170, AObj.row false ([.int .i64 x155, .slice p160 rs156.length c161]))], oseg p160 (ints rs156.flatten)] ∧ Am.Sub [(0, .int .i64 a0), (1, .slice p_a1 a1.length c_a1), (6, .pointer (some ⟨i136, 0, none⟩)), (7, .int .i64 x123), (9, .pointer (some ⟨i170, 0, none⟩)), (65, .bool b267)] t') ?_ ?_
          · skip
            refine AX.region ?_
            refine AO.p rfl (p_move rfl) ?_
            refine AO.p rfl (p_lss rfl rfl) ?_
            refine AO.p rfl (p_move rfl) ?_
            refine AO.cases (d := 55) rfl (fun c271 => ?_) (fun c271 => ?_)
            · have hd272 := bif_t c271 hb269
              refine AO.gn rfl rfl rfl ?_
              refine AO.gn rfl rfl rfl ?_
              refine AO.gn rfl rfl rfl ?_
              refine AO.gn rfl rfl rfl ?_
              refine AO.p rfl (p_pickT rfl rfl) ?_
              refine AO.p rfl (p_move rfl) ?_
              refine AO.gn rfl rfl rfl ?_
              refine AO.gn rfl rfl rfl ?_
              refine AO.gn rfl rfl rfl ?_
              refine AO.p rfl (p_pickT rfl rfl) ?_
              refine AO.nil ?_
              have S273 := S252.front 7 rfl
              have S274 := S273.front 7 rfl
              have S275 := S274.front 7 rfl
              have S276 := S275.front 7 rfl
              have S277 := S276.keep 4
              exact ⟨true, (some_inj hd272), S277, Sub.cons' rfl rfl (Sub.cons' rfl rfl (Sub.cons' rfl rfl (Sub.cons' rfl rfl (Sub.cons' rfl rfl (Sub.cons' rfl rfl (Sub.nil _))))))⟩
            · have hd278 := bif_f c271 hb269
              refine AO.gc rfl rfl rfl (s_loadN (vs := [.int .i64 x155, .slice p160 rs156.length c161]) Try.isAgg39 Try.sizeOf39 rfl rfl (row_cells (S252.get (k := 6) rfl))) ?_
              refine AO.gc rfl rfl rfl (s_loadN (vs := [.int .i64 x121, .slice p126 rs122.length c127]) Try.isAgg39 Try.sizeOf39 rfl rfl (row_cells (S252.get (k := 4) rfl))) ?_
              obtain ⟨b279, h280, hd281⟩ := bnd_some hd278
              refine AO.gc rfl rfl rfl (o_call (vs := [.agg [.int .i64 x155, .slice p160 rs156.length c161].toArray, .agg [.int .i64 x121, .slice p126 rs122.length c127].toArray]) rfl Try.call26 (W_laws_eqSchedule fu G250 x155 p160 c161 rs156 a164 (S252.oview (k := 7) rfl B163 (flat_len1 a164 rfl)) x121 p126 c127 rs122 a130 (S252.oview (k := 5) rfl B129 (flat_len1 a130 rfl)) b279 h280)) ?_
              refine AO.gp rfl rfl rfl (p_not rfl) ?_
              refine AO.p rfl (p_pickF rfl rfl) ?_
              refine AO.p rfl (p_move rfl) ?_
              refine AO.cases (d := 61) rfl (fun c283 => ?_) (fun c283 => ?_)
              · have hd284 := bif_t c283 hd281
                refine AO.gn rfl rfl rfl ?_
                refine AO.gn rfl rfl rfl ?_
                refine AO.gn rfl rfl rfl ?_
                refine AO.p rfl (p_pickT rfl rfl) ?_
                refine AO.nil ?_
                have S285 := S252.front 7 rfl
                have S286 := S285.front 7 rfl
                have S287 := S286.front 7 rfl
                have S288 := S287.front 7 rfl
                have S289 := S288.keep 4
                exact ⟨true, (some_inj hd284), S289, Sub.cons' rfl rfl (Sub.cons' rfl rfl (Sub.cons' rfl rfl (Sub.cons' rfl rfl (Sub.cons' rfl rfl (Sub.cons' rfl rfl (Sub.nil _))))))⟩
              · have hd290 := bif_f c283 hd281
                refine AO.gp rfl rfl rfl (p_move rfl) ?_
                refine AO.gp rfl rfl rfl (p_move rfl) ?_
                refine AO.gp rfl rfl rfl (p_neq rfl rfl) ?_
                refine AO.p rfl (p_pickF rfl rfl) ?_
                refine AO.nil ?_
                have S291 := S252.front 7 rfl
                have S292 := S291.front 7 rfl
                have S293 := S292.front 7 rfl
                have S294 := S293.front 7 rfl
                have S295 := S294.keep 4
                exact ⟨(!decide (x157 = x123)), (some_inj hd290), S295, Sub.cons' rfl rfl (Sub.cons' rfl rfl (Sub.cons' rfl rfl (Sub.cons' rfl rfl (Sub.cons' rfl rfl (Sub.cons' rfl rfl (Sub.nil _))))))⟩
          · rintro t' G297 ⟨b267, rfl, S296, hsub298⟩
            refine AX.sub hsub298 ?_
            refine AX.cond rfl (fun c299 => ?_) (fun c299 => ?_)
            · have hd300 := bif_t c299 hd270
              refine AX.seq ?_
              refine AX.region ?_
              refine AO.p rfl (p_assign rfl) ?_
              refine AO.nil ?_
              refine AX.ret ?_
              obtain rfl := some_inj hd300
              exact ⟨.inr rfl, _, res1 rfl (rv_tmp rfl), rfl, (flatB_ok rfl), S296.hold⟩
            · have hd301 := bif_f c299 hd270
              refine AX.skip ?_
              refine AX.seq ?_
              refine AX.region ?_
              refine AO.p rfl (p_assign rfl) ?_
              refine AO.nil ?_
              refine AX.seq ?_
              refine AX.region ?_
              refine AO.c rfl (s_loadN (vs := [.int .i64 x155, .slice p160 rs156.length c161]) Try.isAgg39 Try.sizeOf39 rfl rfl (row_cells (S296.get (k := 2) rfl))) ?_
              refine AO.p rfl (p_move rfl) ?_
              have S302 := S296.front 3 rfl
              obtain ⟨⟨x303, rs304⟩, h305, hd306⟩ := bnd_some hd301
              obtain ⟨_, G310, hc309, rfl, S311, l307, a308⟩ := W_laws_markSchedule fu G297 x155 p160 c161 rs156 a164 B163 1 (S302.onodup (k := 0) rfl) (S302.omem (k := 0) rfl) x303 rs304 h305
              have S312 := St.callM (A := [oseg p160 (ints rs156.flatten)]) S302 S311 (by simp)
              refine AO.c rfl (o_call (vs := [.agg [.int .i64 x155, .slice p160 rs156.length c161].toArray, .int .i64 1]) rfl Try.call27 hc309) ?_
              refine AO.p rfl (p_assign rfl) ?_
              refine AO.nil ?_
              refine AX.seq ?_
              refine AX.region ?_
              refine AO.p rfl (p_assign rfl) ?_
              refine AO.nil ?_
              refine AX.seq ?_
              refine AX.region ?_
              refine AO.c rfl (s_loadN (vs := [.int .i64 x155, .slice p160 rs156.length c161]) Try.isAgg39 Try.sizeOf39 rfl rfl (row_cells (S312.get (k := 3) rfl))) ?_
              refine AO.p rfl (p_move rfl) ?_
              obtain ⟨x313, h314, hd315⟩ := bnd_some hd306
              refine AO.c rfl (o_call (vs := [.agg [.int .i64 x155, .slice p160 rs156.length c161].toArray, .int .i64 1]) rfl Try.call28 (by have h' := W_laws_heldSchedule fu G310 x155 p160 c161 rs304 a308 (by rw [show List.length rs304 = rs156.length from l307]; exact (S312.oview (k := 0) rfl B163 (flat_len1 a308 l307))) 1 x313 h314; rw [show List.length rs304 = rs156.length from l307] at h'; exact h')) ?_
              refine AO.p rfl (p_assign rfl) ?_
              refine AO.nil ?_
              refine AX.seq ?_
              refine AX.seq ?_
              refine AX.region ?_
              refine AO.p rfl (p_move rfl) ?_
              refine AO.p rfl (p_lss rfl rfl) ?_
              refine AO.nil ?_
              refine AX.cond rfl (fun c317 => ?_) (fun c317 => ?_)
              · have hd318 := bif_t c317 hd315
                refine AX.seq ?_
                refine AX.region ?_
                refine AO.p rfl (p_assign rfl) ?_
                refine AO.nil ?_
                refine AX.ret ?_
                obtain rfl := some_inj hd318
                exact ⟨.inr rfl, _, res1 rfl (rv_tmp rfl), rfl, (flatB_ok rfl), S312.hold⟩
              · have hd319 := bif_f c317 hd315
                refine AX.skip ?_
                refine AX.seq ?_
                refine AX.seq ?_
                refine AX.region ?_
                refine AO.p rfl (p_move rfl) ?_
                refine AO.p rfl (p_move rfl) ?_
                refine AO.p rfl (p_neq rfl rfl) ?_
                refine AO.nil ?_
                refine AX.cond rfl (fun c320 => ?_) (fun c320 => ?_)
                · have hd321 := bif_t c320 hd319
                  refine AX.seq ?_
                  refine AX.region ?_
                  refine AO.p rfl (p_assign rfl) ?_
                  refine AO.nil ?_
                  refine AX.ret ?_
                  obtain rfl := some_inj hd321
                  exact ⟨.inr rfl, _, res1 rfl (rv_tmp rfl), rfl, (flatB_ok rfl), S312.hold⟩
                · have hd322 := bif_f c320 hd319
                  refine AX.skip ?_
                  refine AX.seq ?_
                  refine AX.region ?_
                  refine AO.p rfl (p_move rfl) ?_
                  refine AO.p rfl (p_move rfl) ?_
                  obtain ⟨rs323, h324, hd325⟩ := bnd_some hd322
                  obtain ⟨_, G334, hc333, p326, c327, T330, rfl, S335, B329, t331, s332⟩ := W_laws_toInt64SS fu G310 p_a1 c_a1 T_a1 a1 t_a1 (S312.view v_a1) (S312.tview w_a1) rs323 h324
                  have S336 := S312.call S335
                  refine AO.c rfl (o_call (vs := [.slice p_a1 a1.length c_a1]) rfl Try.call36 hc333) ?_
                  obtain ⟨⟨x337, rs338, x339⟩, h340, hd341⟩ := bnd_some hd325
                  obtain ⟨_, G348, hc347, p342, c343, rfl, S349, B345, a346⟩ := W_impl_ScheduleOfStarter fu G334 a0 p326 c327 T330 rs323 t331 (S336.oview (k := 0) rfl B329 (tc_len1 t331 rfl)) (S336.oviewT (k := 1) rfl s332) x337 rs338 x339 h340
                  have S350 := S336.call S349
                  refine AO.c rfl (o_call (vs := [.int .i64 a0, .slice p326 rs323.length c327]) rfl Try.call41 hc347) ?_
                  refine AO.p rfl (p_move rfl) ?_
                  refine AO.p rfl (p_extract rfl rfl) ?_
                  refine AO.p rfl (p_extract rfl rfl) ?_
                  obtain ⟨G351, i352, hii352, hHG351, S353⟩ := S350.new (AObj.row false ([.int .i64 0, .slice none 0 0]))
                  refine AO.c rfl (s_alloc (i := i352) (cs := [.int .i64 0, .slice none 0 0]) Try.zeroValue39 rfl rfl hii352 hHG351) ?_
                  obtain ⟨G355, hHG355, S356⟩ := S353.set (k := 0) (i := i352) rfl (AObj.row false ([.int .i64 x337, .slice p342 rs338.length c343]))
                  refine AO.s (s_storeAll (vs := [.int .i64 x337, .slice p342 rs338.length c343]) Try.sizeOf39 rfl rfl (ones_list rfl) (S353.get (k := 0) rfl) rfl rfl hHG355) ?_
                  refine AO.p rfl (p_assign rfl) ?_
                  refine AO.nil ?_
                  refine AX.seq ?_
                  obtain ⟨r367, hb368, hd369⟩ := bnd_some hd341
                  refine AX.cut (fun t' H' => ∃ (b366 : Bool), b366 = r367 ∧ St [] H H' [[(i170, AObj.row false ([.int .i64 x155, .slice p160 rs156.length c161]))], oseg p160 (ints rs304.flatten)] ∧ Am.Sub [(9, .pointer (some ⟨i170, 0, none⟩)), (12, .int .i64 x303), (92, .bool b366)] t') ?_ ?_
                  · skip
                    refine AX.region ?_
                    refine AO.c rfl (s_loadN (vs := [.int .i64 x337, .slice p342 rs338.length c343]) Try.isAgg39 Try.sizeOf39 rfl rfl (row_cells (S356.get (k := 0) rfl))) ?_
                    refine AO.c rfl (s_loadN (vs := [.int .i64 x121, .slice p126 rs122.length c127]) Try.isAgg39 Try.sizeOf39 rfl rfl (row_cells (S356.get (k := 5) rfl))) ?_
                    obtain ⟨b370, h371, hd372⟩ := bnd_some hb368
                    refine AO.c rfl (o_call (vs := [.agg [.int .i64 x337, .slice p342 rs338.length c343].toArray, .agg [.int .i64 x121, .slice p126 rs122.length c127].toArray]) rfl Try.call26 (W_laws_eqSchedule fu G355 x337 p342 c343 rs338 a346 (S356.oview (k := 1) rfl B345 (flat_len1 a346 rfl)) x121 p126 c127 rs122 a130 (S356.oview (k := 6) rfl B129 (flat_len1 a130 rfl)) b370 h371)) ?_
                    refine AO.p rfl (p_not rfl) ?_
                    refine AO.p rfl (p_move rfl) ?_
                    refine AO.cases (d := 88) rfl (fun c374 => ?_) (fun c374 => ?_)
                    · have hd375 := bif_t c374 hd372
                      refine AO.gn rfl rfl rfl ?_
                      refine AO.gn rfl rfl rfl ?_
                      refine AO.gn rfl rfl rfl ?_
                      refine AO.p rfl (p_pickT rfl rfl) ?_
                      refine AO.nil ?_
                      have S376 := S356.front 4 rfl
                      have S377 := S376.front 7 rfl
                      have S378 := S377.keep 2
                      exact ⟨true, (some_inj hd375), S378, Sub.cons' rfl rfl (Sub.cons' rfl rfl (Sub.cons' rfl rfl (Sub.nil _)))⟩
                    · have hd379 := bif_f c374 hd372
                      refine AO.gp rfl rfl rfl (p_move rfl) ?_
                      refine AO.gp rfl rfl rfl (p_move rfl) ?_
                      refine AO.gp rfl rfl rfl (p_neq rfl rfl) ?_
                      refine AO.p rfl (p_pickF rfl rfl) ?_
                      refine AO.nil ?_
                      have S380 := S356.front 4 rfl
                      have S381 := S380.front 7 rfl
                      have S382 := S381.keep 2
                      exact ⟨(!decide (x339 = x123)), (some_inj hd379), S382, Sub.cons' rfl rfl (Sub.cons' rfl rfl (Sub.cons' rfl rfl (Sub.nil _)))⟩
                  · rintro t' G384 ⟨b366, rfl, S383, hsub385⟩
                    refine AX.sub hsub385 ?_
                    refine AX.cond rfl (fun c386 => ?_) (fun c386 => ?_)
                    · have hd387 := bif_t c386 hd369
                      refine AX.seq ?_
                      refine AX.region ?_
                      refine AO.p rfl (p_assign rfl) ?_
                      refine AO.nil ?_
                      refine AX.ret ?_
                      obtain rfl := some_inj hd387
                      exact ⟨.inr rfl, _, res1 rfl (rv_tmp rfl), rfl, (flatB_ok rfl), S383.hold⟩
                    · have hd388 := bif_f c386 hd369
                      refine AX.skip ?_
                      refine AX.seq ?_
                      refine AX.region ?_
                      refine AO.p rfl (p_assign rfl) ?_
                      refine AO.nil ?_
                      refine AX.seq ?_
                      refine AX.region ?_
                      refine AO.c rfl (s_loadN (vs := [.int .i64 x155, .slice p160 rs156.length c161]) Try.isAgg39 Try.sizeOf39 rfl rfl (row_cells (S383.get (k := 0) rfl))) ?_
                      refine AO.p rfl (p_move rfl) ?_
                      obtain ⟨x389, h390, hd391⟩ := bnd_some hd388
                      refine AO.c rfl (o_call (vs := [.agg [.int .i64 x155, .slice p160 rs156.length c161].toArray, .int .i64 1]) rfl Try.call28 (by have h' := W_laws_heldSchedule fu G384 x155 p160 c161 rs304 a308 (by rw [show List.length rs304 = rs156.length from l307]; exact (S383.oview (k := 1) rfl B163 (flat_len1 a308 l307))) 1 x389 h390; rw [show List.length rs304 = rs156.length from l307] at h'; exact h')) ?_
                      refine AO.p rfl (p_assign rfl) ?_
                      refine AO.nil ?_
                      refine AX.seq ?_
                      refine AX.seq ?_
                      refine AX.region ?_
                      refine AO.p rfl (p_move rfl) ?_
                      refine AO.p rfl (p_lss rfl rfl) ?_
                      refine AO.nil ?_
                      refine AX.cond rfl (fun c393 => ?_) (fun c393 => ?_)
                      · have hd394 := bif_t c393 hd391
                        refine AX.seq ?_
                        refine AX.region ?_
                        refine AO.p rfl (p_assign rfl) ?_
                        refine AO.nil ?_
                        refine AX.ret ?_
                        obtain rfl := some_inj hd394
                        exact ⟨.inr rfl, _, res1 rfl (rv_tmp rfl), rfl, (flatB_ok rfl), S383.hold⟩
                      · have hd395 := bif_f c393 hd391
                        refine AX.skip ?_
                        refine AX.seq ?_
                        refine AX.seq ?_
                        refine AX.region ?_
                        refine AO.p rfl (p_move rfl) ?_
                        refine AO.p rfl (p_move rfl) ?_
                        refine AO.p rfl (p_neq rfl rfl) ?_
                        refine AO.nil ?_
                        refine AX.cond rfl (fun c396 => ?_) (fun c396 => ?_)
                        · have hd397 := bif_t c396 hd395
                          refine AX.seq ?_
                          refine AX.region ?_
                          refine AO.p rfl (p_assign rfl) ?_
                          refine AO.nil ?_
                          refine AX.ret ?_
                          obtain rfl := some_inj hd397
                          exact ⟨.inr rfl, _, res1 rfl (rv_tmp rfl), rfl, (flatB_ok rfl), S383.hold⟩
                        · have hd398 := bif_f c396 hd395
                          refine AX.skip ?_
                          refine AX.seq ?_
                          refine AX.region ?_
                          refine AO.p rfl (p_assign rfl) ?_
                          refine AO.nil ?_
                          refine AX.ret ?_
                          obtain rfl := some_inj hd398
                          exact ⟨.inr rfl, _, res1 rfl (rv_tmp rfl), rfl, (flatB_ok rfl), S383.hold⟩

end Go.Proofs.Ytpaaoafgahbokaa
