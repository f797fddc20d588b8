/-
  The program computes that, printed by a program. No condition.
-/
import Derived.Test.YtakfkiahhfdjfaaDZ
import Derived.Test.YtakfkiahhfdjfaaWJ
import Derived.Test.YtakfkiahhfdjfaaProg
import Derived.KernelRfl
namespace Go.Proofs.Ytakfkiahhfdjfaa
open Go Go.RowKit Am
set_option linter.unusedVariables false
set_option linter.unusedSimpArgs false
set_option maxRecDepth 20000
set_option maxHeartbeats 4000000 in
theorem W_laws_FnExactSquareOfStarter (fu : Nat) (H : AHeap) (a0 : Int) (p_a1 : Option Addr) (c_a1 : Nat) (T_a1 : Tb) (a1 : List (List Int)) (t_a1 : trows T_a1 = a1) (v_a1 : Vw H p_a1 a1.length c_a1 (tcells T_a1)) (w_a1 : TVw H T_a1) (p_a2 : Option Addr) (c_a2 : Nat) (a2 : List Int) (v_a2 : Vw H p_a2 a2.length c_a2 (ints a2)) (r0 : Bool) (hd : D_laws_FnExactSquareOfStarter fu a0 a1 a2 = some r0) : ACall Try.prog 12 [.int .i64 a0, .slice p_a1 a1.length c_a1, .slice p_a2 a2.length c_a2] H (.bool r0) H := by
  refine ACall.bodyP (N := 122) [(0, .int .i64 a0), (1, .slice p_a1 a1.length c_a1), (2, .slice p_a2 a2.length c_a2)] Try.func12 rfl rfl rfl rfl ?_
  unfold D_laws_FnExactSquareOfStarter at hd
  have S0 : St [] H H [] := St.nil H
  refine AX.seq ?_
  refine AX.region ?_
  refine AO.p rfl (p_assign rfl) ?_
  refine AO.nil ?_
  refine AX.seq ?_
  refine AX.seq ?_
  refine AX.region ?_
  refine AO.p rfl (p_move rfl) ?_
  refine AO.p rfl (p_len_slice rfl Try.underlying34) ?_
  refine AO.p rfl (p_gtr rfl rfl) ?_
  refine AO.nil ?_
  refine AX.cond rfl (fun c100 => ?_) (fun c100 => ?_)
  · have hd101 := bif_t c100 hd
    refine AX.seq ?_
    refine AX.region ?_
    refine AO.p rfl (p_assign rfl) ?_
    refine AO.nil ?_
    refine AX.ret ?_
    obtain rfl := some_inj hd101
    exact ⟨.inr rfl, _, res1 rfl (rv_tmp rfl), rfl, (flatB_ok rfl), S0.hold⟩
  · have hd102 := bif_f c100 hd
    refine AX.skip ?_
    refine AX.seq ?_
    refine AX.region ?_
    refine AO.p rfl (p_assign rfl) ?_
    refine AO.nil ?_
    refine AX.seq ?_
    refine AX.region ?_
    refine AO.p rfl (p_move rfl) ?_
    refine AO.p rfl (p_move rfl) ?_
    obtain ⟨x103, h104, hd105⟩ := bnd_some hd102
    refine AO.c rfl (o_call (vs := [.slice p_a1 a1.length c_a1, .int .i64 1048576]) rfl Try.call13 (W_laws_szInt64SS fu H p_a1 c_a1 T_a1 a1 t_a1 (S0.view v_a1) (S0.tview w_a1) 1048576 x103 h104)) ?_
    refine AO.p rfl (p_assign rfl) ?_
    refine AO.nil ?_
    refine AX.seq ?_
    refine AX.seq ?_
    refine AX.region ?_
    refine AO.p rfl (p_move rfl) ?_
    refine AO.p rfl (p_lss rfl rfl) ?_
    refine AO.nil ?_
    refine AX.cond rfl (fun c107 => ?_) (fun c107 => ?_)
    · have hd108 := bif_t c107 hd105
      refine AX.seq ?_
      refine AX.region ?_
      refine AO.p rfl (p_assign rfl) ?_
      refine AO.nil ?_
      refine AX.ret ?_
      obtain rfl := some_inj hd108
      exact ⟨.inr rfl, _, res1 rfl (rv_tmp rfl), rfl, (flatB_ok rfl), S0.hold⟩
    · have hd109 := bif_f c107 hd105
      refine AX.skip ?_
      refine AX.seq ?_
      refine AX.region ?_
      refine AO.p rfl (p_move rfl) ?_
      refine AO.p rfl (p_move rfl) ?_
      obtain ⟨rs110, h111, hd112⟩ := bnd_some hd109
      obtain ⟨_, G121, hc120, p113, c114, T117, rfl, S122, B116, t118, s119⟩ := W_laws_toInt64SS fu H p_a1 c_a1 T_a1 a1 t_a1 (S0.view v_a1) (S0.tview w_a1) rs110 h111
      have S123 := S0.call S122
      refine AO.c rfl (o_call (vs := [.slice p_a1 a1.length c_a1]) rfl Try.call15 hc120) ?_
      refine AO.p rfl (p_move rfl) ?_
      obtain ⟨xs124, h125, hd126⟩ := bnd_some hd112
      obtain ⟨_, G132, hc131, p127, c128, rfl, S133, B130⟩ := W_laws_toInt64S fu G121 p_a2 c_a2 a2 (S123.view v_a2) xs124 h125
      have S134 := S123.call S133
      refine AO.c rfl (o_call (vs := [.slice p_a2 a2.length c_a2]) rfl Try.call23 hc131) ?_
      obtain ⟨⟨x135, rs136, x137⟩, h138, hd139⟩ := bnd_some hd126
      obtain ⟨_, G148, hc147, p140, c141, T144, rfl, S149, B143, t145, s146⟩ := W_spec_SquareOfStarter fu G132 a0 p113 c114 T117 rs110 t118 (S134.oview (k := 1) rfl B116 (tc_len1 t118 rfl)) (S134.oviewT (k := 2) rfl s119) p127 c128 xs124 (S134.oview (k := 0) rfl B130 (ints_len1 rfl)) x135 rs136 x137 h138
      have S150 := S134.call S149
      refine AO.c rfl (o_call (vs := [.int .i64 a0, .slice p113 rs110.length c114, .slice p127 xs124.length c128]) rfl Try.call49 hc147) ?_
      refine AO.p rfl (p_move rfl) ?_
      refine AO.p rfl (p_extract rfl rfl) ?_
      refine AO.p rfl (p_extract rfl rfl) ?_
      obtain ⟨G151, i152, hii152, hHG151, S153⟩ := S150.new (AObj.row false ([.int .i64 0, .slice none 0 0]))
      refine AO.c rfl (s_alloc (i := i152) (cs := [.int .i64 0, .slice none 0 0]) Try.zeroValue53 rfl rfl hii152 hHG151) ?_
      obtain ⟨G155, hHG155, S156⟩ := S153.set (k := 0) (i := i152) rfl (AObj.row false ([.int .i64 x135, .slice p140 rs136.length c141]))
      refine AO.s (s_storeAll (vs := [.int .i64 x135, .slice p140 rs136.length c141]) Try.sizeOf53 rfl rfl (ones_list rfl) (S153.get (k := 0) rfl) rfl rfl hHG155) ?_
      refine AO.p rfl (p_assign rfl) ?_
      refine AO.nil ?_
      refine AX.seq ?_
      refine AX.region ?_
      refine AO.p rfl (p_move rfl) ?_
      obtain ⟨rs157, h158, hd159⟩ := bnd_some hd139
      obtain ⟨_, G168, hc167, p160, c161, T164, rfl, S169, B163, t165, s166⟩ := W_laws_toInt64SS fu G155 p_a1 c_a1 T_a1 a1 t_a1 (S156.view v_a1) (S156.tview w_a1) rs157 h158
      have S170 := S156.call S169
      refine AO.c rfl (o_call (vs := [.slice p_a1 a1.length c_a1]) rfl Try.call15 hc167) ?_
      refine AO.p rfl (p_assign rfl) ?_
      refine AO.nil ?_
      refine AX.seq ?_
      refine AX.region ?_
      refine AO.p rfl (p_move rfl) ?_
      obtain ⟨xs171, h172, hd173⟩ := bnd_some hd159
      obtain ⟨_, G179, hc178, p174, c175, rfl, S180, B177⟩ := W_laws_toInt64S fu G168 p_a2 c_a2 a2 (S170.view v_a2) xs171 h172
      have S181 := S170.call S180
      refine AO.c rfl (o_call (vs := [.slice p_a2 a2.length c_a2]) rfl Try.call23 hc178) ?_
      refine AO.p rfl (p_assign rfl) ?_
      refine AO.nil ?_
      refine AX.seq ?_
      refine AX.region ?_
      refine AO.p rfl (p_move rfl) ?_
      refine AO.p rfl (p_move rfl) ?_
      refine AO.p rfl (p_move rfl) ?_
      obtain ⟨⟨x182, rs183, x184⟩, h185, hd186⟩ := bnd_some hd173
      obtain ⟨_, G195, hc194, p187, c188, T191, rfl, S196, B190, t192, s193⟩ := W_impl_SquareOfStarter fu G179 a0 p160 c161 T164 rs157 t165 (S181.oview (k := 1) rfl B163 (tc_len1 t165 rfl)) (S181.oviewT (k := 2) rfl s166) p174 c175 xs171 (S181.oview (k := 0) rfl B177 (ints_len1 rfl)) x182 rs183 x184 h185
      have S197 := S181.call S196
      refine AO.c rfl (o_call (vs := [.int .i64 a0, .slice p160 rs157.length c161, .slice p174 xs171.length c175]) rfl Try.call50 hc194) ?_
      refine AO.p rfl (p_move rfl) ?_
      refine AO.p rfl (p_extract rfl rfl) ?_
      refine AO.p rfl (p_extract rfl rfl) ?_
      obtain ⟨G198, i199, hii199, hHG198, S200⟩ := S197.new (AObj.row false ([.int .i64 0, .slice none 0 0]))
      refine AO.c rfl (s_alloc (i := i199) (cs := [.int .i64 0, .slice none 0 0]) Try.zeroValue53 rfl rfl hii199 hHG198) ?_
      obtain ⟨G202, hHG202, S203⟩ := S200.set (k := 0) (i := i199) rfl (AObj.row false ([.int .i64 x182, .slice p187 rs183.length c188]))
      refine AO.s (s_storeAll (vs := [.int .i64 x182, .slice p187 rs183.length c188]) Try.sizeOf53 rfl rfl (ones_list rfl) (S200.get (k := 0) rfl) rfl rfl hHG202) ?_
      refine AO.p rfl (p_assign rfl) ?_
      refine AO.nil ?_
      refine AX.seq ?_
      obtain ⟨r218, hb219, hd220⟩ := bnd_some hd186
      refine AX.cut (fun t' H' => ∃ (b217 : Bool), b217 = r218 ∧ St [] H H' [[(i152, AObj.row false ([.int .i64 x135, .slice p140 rs136.length c141]))], oseg p140 (tcells T144), tseg T144, oseg p160 (tcells T164), tseg T164, oseg p174 (ints xs171), [(i199, AObj.row false ([.int .i64 x182, .slice p187 rs183.length c188]))], oseg p187 (tcells T191), tseg T191] ∧ Am.Sub [(0, .int .i64 a0), (1, .slice p_a1 a1.length c_a1), (2, .slice p_a2 a2.length c_a2), (8, .pointer (some ⟨i152, 0, none⟩)), (9, .int .i64 x137), (10, .slice p160 rs157.length c161), (11, .slice p174 xs171.length c175), (12, .pointer (some ⟨i199, 0, none⟩)), (13, .int .i64 x184), (55, .bool b217)] t') ?_ ?_
      · skip
        refine AX.region ?_
        refine AO.c rfl (s_loadN (vs := [.int .i64 x182, .slice p187 rs183.length c188]) Try.isAgg53 Try.sizeOf53 rfl rfl (row_cells (S203.get (k := 0) rfl))) ?_
        refine AO.c rfl (s_loadN (vs := [.int .i64 x135, .slice p140 rs136.length c141]) Try.isAgg53 Try.sizeOf53 rfl rfl (row_cells (S203.get (k := 6) rfl))) ?_
        obtain ⟨b221, h222, hd223⟩ := bnd_some hb219
        refine AO.c rfl (o_call (vs := [.agg [.int .i64 x182, .slice p187 rs183.length c188].toArray, .agg [.int .i64 x135, .slice p140 rs136.length c141].toArray]) rfl Try.call36 (W_laws_eqSquare fu G202 x182 p187 c188 T191 rs183 t192 (S203.oview (k := 1) rfl B190 (tc_len1 t192 rfl)) (S203.oviewT (k := 2) rfl s193) x135 p140 c141 T144 rs136 t145 (S203.oview (k := 7) rfl B143 (tc_len1 t145 rfl)) (S203.oviewT (k := 8) rfl s146) b221 h222)) ?_
        refine AO.p rfl (p_not rfl) ?_
        refine AO.p rfl (p_move rfl) ?_
        refine AO.cases (d := 51) rfl (fun c225 => ?_) (fun c225 => ?_)
        · have hd226 := bif_t c225 hd223
          refine AO.gn rfl rfl rfl ?_
          refine AO.gn rfl rfl rfl ?_
          refine AO.gn rfl rfl rfl ?_
          refine AO.p rfl (p_pickT rfl rfl) ?_
          refine AO.nil ?_
          have S227 := S203.front 2 rfl
          have S228 := S227.front 2 rfl
          have S229 := S228.front 2 rfl
          have S230 := S229.front 3 rfl
          have S231 := S230.front 5 rfl
          have S232 := S231.front 5 rfl
          have S233 := S232.front 8 rfl
          have S234 := S233.front 8 rfl
          have S235 := S234.front 8 rfl
          have S236 := S235.keep 9
          exact ⟨true, (some_inj hd226), S236, Sub.cons' rfl rfl (Sub.cons' rfl rfl (Sub.cons' rfl rfl (Sub.cons' rfl rfl (Sub.cons' rfl rfl (Sub.cons' rfl rfl (Sub.cons' rfl rfl (Sub.cons' rfl rfl (Sub.cons' rfl rfl (Sub.cons' rfl rfl (Sub.nil _))))))))))⟩
        · have hd237 := bif_f c225 hd223
          refine AO.gp rfl rfl rfl (p_move rfl) ?_
          refine AO.gp rfl rfl rfl (p_move rfl) ?_
          refine AO.gp rfl rfl rfl (p_neq rfl rfl) ?_
          refine AO.p rfl (p_pickF rfl rfl) ?_
          refine AO.nil ?_
          have S238 := S203.front 2 rfl
          have S239 := S238.front 2 rfl
          have S240 := S239.front 2 rfl
          have S241 := S240.front 3 rfl
          have S242 := S241.front 5 rfl
          have S243 := S242.front 5 rfl
          have S244 := S243.front 8 rfl
          have S245 := S244.front 8 rfl
          have S246 := S245.front 8 rfl
          have S247 := S246.keep 9
          exact ⟨(!decide (x184 = x137)), (some_inj hd237), S247, Sub.cons' rfl rfl (Sub.cons' rfl rfl (Sub.cons' rfl rfl (Sub.cons' rfl rfl (Sub.cons' rfl rfl (Sub.cons' rfl rfl (Sub.cons' rfl rfl (Sub.cons' rfl rfl (Sub.cons' rfl rfl (Sub.cons' rfl rfl (Sub.nil _))))))))))⟩
      · rintro t' G249 ⟨b217, rfl, S248, hsub250⟩
        refine AX.sub hsub250 ?_
        refine AX.cond rfl (fun c251 => ?_) (fun c251 => ?_)
        · have hd252 := bif_t c251 hd220
          refine AX.seq ?_
          refine AX.region ?_
          refine AO.p rfl (p_assign rfl) ?_
          refine AO.nil ?_
          refine AX.ret ?_
          obtain rfl := some_inj hd252
          exact ⟨.inr rfl, _, res1 rfl (rv_tmp rfl), rfl, (flatB_ok rfl), S248.hold⟩
        · have hd253 := bif_f c251 hd220
          refine AX.skip ?_
          refine AX.seq ?_
          refine AX.seq ?_
          refine AX.region ?_
          refine AO.p rfl (p_move rfl) ?_
          refine AO.p rfl (p_move rfl) ?_
          obtain ⟨rs254, h255, hd256⟩ := bnd_some hd253
          obtain ⟨_, G265, hc264, p257, c258, T261, rfl, S266, B260, t262, s263⟩ := W_laws_toInt64SS fu G249 p_a1 c_a1 T_a1 a1 t_a1 (S248.view v_a1) (S248.tview w_a1) rs254 h255
          have S267 := S248.call S266
          refine AO.c rfl (o_call (vs := [.slice p_a1 a1.length c_a1]) rfl Try.call15 hc264) ?_
          obtain ⟨b268, h269, hd270⟩ := bnd_some hd256
          refine AO.c rfl (o_call (vs := [.slice p160 rs157.length c161, .slice p257 rs254.length c258]) rfl Try.call17 (W_laws_eqInt64SS fu G265 p160 c161 T164 rs157 t165 (S267.oview (k := 5) rfl B163 (tc_len1 t165 rfl)) (S267.oviewT (k := 6) rfl s166) p257 c258 T261 rs254 t262 (S267.oview (k := 0) rfl B260 (tc_len1 t262 rfl)) (S267.oviewT (k := 1) rfl s263) b268 h269)) ?_
          refine AO.p rfl (p_not rfl) ?_
          refine AO.nil ?_
          refine AX.cond rfl (fun c272 => ?_) (fun c272 => ?_)
          · have hd273 := bif_t c272 hd270
            refine AX.seq ?_
            refine AX.region ?_
            refine AO.p rfl (p_assign rfl) ?_
            refine AO.nil ?_
            refine AX.ret ?_
            obtain rfl := some_inj hd273
            exact ⟨.inr rfl, _, res1 rfl (rv_tmp rfl), rfl, (flatB_ok rfl), S267.hold⟩
          · have hd274 := bif_f c272 hd270
            refine AX.skip ?_
            refine AX.seq ?_
            refine AX.seq ?_
            refine AX.region ?_
            refine AO.p rfl (p_move rfl) ?_
            refine AO.p rfl (p_move rfl) ?_
            obtain ⟨xs275, h276, hd277⟩ := bnd_some hd274
            obtain ⟨_, G283, hc282, p278, c279, rfl, S284, B281⟩ := W_laws_toInt64S fu G265 p_a2 c_a2 a2 (S267.view v_a2) xs275 h276
            have S285 := S267.call S284
            refine AO.c rfl (o_call (vs := [.slice p_a2 a2.length c_a2]) rfl Try.call23 hc282) ?_
            obtain ⟨b286, h287, hd288⟩ := bnd_some hd277
            refine AO.c rfl (o_call (vs := [.slice p174 xs171.length c175, .slice p278 xs275.length c279]) rfl Try.call26 (W_laws_eqInt64S fu G283 p174 c175 xs171 (S285.oview (k := 8) rfl B177 (ints_len1 rfl)) p278 c279 xs275 (S285.oview (k := 0) rfl B281 (ints_len1 rfl)) b286 h287)) ?_
            refine AO.p rfl (p_not rfl) ?_
            refine AO.nil ?_
            refine AX.cond rfl (fun c290 => ?_) (fun c290 => ?_)
            · have hd291 := bif_t c290 hd288
              refine AX.seq ?_
              refine AX.region ?_
              refine AO.p rfl (p_assign rfl) ?_
              refine AO.nil ?_
              refine AX.ret ?_
              obtain rfl := some_inj hd291
              exact ⟨.inr rfl, _, res1 rfl (rv_tmp rfl), rfl, (flatB_ok rfl), S285.hold⟩
            · have hd292 := bif_f c290 hd288
              refine AX.skip ?_
              refine AX.seq ?_
              refine AX.region ?_
              refine AO.p rfl (p_assign rfl) ?_
              refine AO.nil ?_
              refine AX.seq ?_
              refine AX.region ?_
              refine AO.p rfl (p_move rfl) ?_
              refine AO.p rfl (p_move rfl) ?_
              have S293 := S285.front 7 rfl
              have S294 := S293.front 7 rfl
              obtain ⟨⟨x295, rs296⟩, h297, hd298⟩ := bnd_some hd292
              obtain ⟨_, G304, hc303, T299, rfl, S305, t300, s301, l302⟩ := W_laws_markInt64SS fu G283 p160 c161 T164 rs157 t165 B163 s166 1 ((S294).join2.onodup (k := 0) rfl) ((S294).join2.omem (k := 0) rfl) x295 rs296 h297
              have S306 := St.callM (A := [oseg p160 (tcells T164), tseg T164]) S294 S305 (by simp)
              refine AO.c rfl (o_call (vs := [.slice p160 rs157.length c161, .int .i64 1]) rfl Try.call45 hc303) ?_
              refine AO.p rfl (p_assign rfl) ?_
              refine AO.nil ?_
              refine AX.seq ?_
              refine AX.region ?_
              refine AO.p rfl (p_move rfl) ?_
              refine AO.p rfl (p_move rfl) ?_
              have S307 := S306.front 8 rfl
              obtain ⟨⟨x308, xs309⟩, h310, hd311⟩ := bnd_some hd298
              obtain ⟨_, G314, hc313, rfl, S315, l312⟩ := W_laws_markInt64S fu G304 p174 c175 xs171 B177 x295 (S307.onodup (k := 0) rfl) (S307.omem (k := 0) rfl) x308 xs309 h310
              have S316 := St.callM (A := [oseg p174 (ints xs171)]) S307 S315 (by simp)
              refine AO.c rfl (o_call (vs := [.slice p174 xs171.length c175, .int .i64 x295]) rfl Try.call28 hc313) ?_
              refine AO.p rfl (p_assign rfl) ?_
              refine AO.nil ?_
              refine AX.seq ?_
              obtain ⟨r332, hb333, hd334⟩ := bnd_some hd311
              refine AX.cut (fun t' H' => ∃ (b331 : Bool), b331 = r332 ∧ St [] H H' [[(i152, AObj.row false ([.int .i64 x135, .slice p140 rs136.length c141]))], oseg p140 (tcells T144), tseg T144, [(i199, AObj.row false ([.int .i64 x182, .slice p187 rs183.length c188]))], oseg p187 (tcells T191), tseg T191] ∧ Am.Sub [(0, .int .i64 a0), (1, .slice p_a1 a1.length c_a1), (2, .slice p_a2 a2.length c_a2), (8, .pointer (some ⟨i152, 0, none⟩)), (9, .int .i64 x137), (12, .pointer (some ⟨i199, 0, none⟩)), (84, .bool b331)] t') ?_ ?_
              · skip
                refine AX.region ?_
                refine AO.p rfl (p_move rfl) ?_
                refine AO.p rfl (p_lss rfl rfl) ?_
                refine AO.p rfl (p_move rfl) ?_
                refine AO.cases (d := 74) rfl (fun c335 => ?_) (fun c335 => ?_)
                · have hd336 := bif_t c335 hb333
                  refine AO.gn rfl rfl rfl ?_
                  refine AO.gn rfl rfl rfl ?_
                  refine AO.gn rfl rfl rfl ?_
                  refine AO.gn rfl rfl rfl ?_
                  refine AO.p rfl (p_pickT rfl rfl) ?_
                  refine AO.p rfl (p_move rfl) ?_
                  refine AO.gn rfl rfl rfl ?_
                  refine AO.gn rfl rfl rfl ?_
                  refine AO.gn rfl rfl rfl ?_
                  refine AO.p rfl (p_pickT rfl rfl) ?_
                  refine AO.nil ?_
                  have S337 := S316.front 11 rfl
                  have S338 := S337.front 11 rfl
                  have S339 := S338.front 11 rfl
                  have S340 := S339.front 11 rfl
                  have S341 := S340.front 11 rfl
                  have S342 := S341.front 11 rfl
                  have S343 := S342.keep 6
                  exact ⟨true, (some_inj hd336), S343, Sub.cons' rfl rfl (Sub.cons' rfl rfl (Sub.cons' rfl rfl (Sub.cons' rfl rfl (Sub.cons' rfl rfl (Sub.cons' rfl rfl (Sub.cons' rfl rfl (Sub.nil _)))))))⟩
                · have hd344 := bif_f c335 hb333
                  refine AO.gc rfl rfl rfl (s_loadN (vs := [.int .i64 x182, .slice p187 rs183.length c188]) Try.isAgg53 Try.sizeOf53 rfl rfl (row_cells (S316.get (k := 9) rfl))) ?_
                  refine AO.gc rfl rfl rfl (s_loadN (vs := [.int .i64 x135, .slice p140 rs136.length c141]) Try.isAgg53 Try.sizeOf53 rfl rfl (row_cells (S316.get (k := 6) rfl))) ?_
                  obtain ⟨b345, h346, hd347⟩ := bnd_some hd344
                  refine AO.gc rfl rfl rfl (o_call (vs := [.agg [.int .i64 x182, .slice p187 rs183.length c188].toArray, .agg [.int .i64 x135, .slice p140 rs136.length c141].toArray]) rfl Try.call36 (W_laws_eqSquare fu G314 x182 p187 c188 T191 rs183 t192 (S316.oview (k := 10) rfl B190 (tc_len1 t192 rfl)) (S316.oviewT (k := 11) rfl s193) x135 p140 c141 T144 rs136 t145 (S316.oview (k := 7) rfl B143 (tc_len1 t145 rfl)) (S316.oviewT (k := 8) rfl s146) b345 h346)) ?_
                  refine AO.gp rfl rfl rfl (p_not rfl) ?_
                  refine AO.p rfl (p_pickF rfl rfl) ?_
                  refine AO.p rfl (p_move rfl) ?_
                  refine AO.cases (d := 80) rfl (fun c349 => ?_) (fun c349 => ?_)
                  · have hd350 := bif_t c349 hd347
                    refine AO.gn rfl rfl rfl ?_
                    refine AO.gn rfl rfl rfl ?_
                    refine AO.gn rfl rfl rfl ?_
                    refine AO.p rfl (p_pickT rfl rfl) ?_
                    refine AO.nil ?_
                    have S351 := S316.front 11 rfl
                    have S352 := S351.front 11 rfl
                    have S353 := S352.front 11 rfl
                    have S354 := S353.front 11 rfl
                    have S355 := S354.front 11 rfl
                    have S356 := S355.front 11 rfl
                    have S357 := S356.keep 6
                    exact ⟨true, (some_inj hd350), S357, Sub.cons' rfl rfl (Sub.cons' rfl rfl (Sub.cons' rfl rfl (Sub.cons' rfl rfl (Sub.cons' rfl rfl (Sub.cons' rfl rfl (Sub.cons' rfl rfl (Sub.nil _)))))))⟩
                  · have hd358 := bif_f c349 hd347
                    refine AO.gp rfl rfl rfl (p_move rfl) ?_
                    refine AO.gp rfl rfl rfl (p_move rfl) ?_
                    refine AO.gp rfl rfl rfl (p_neq rfl rfl) ?_
                    refine AO.p rfl (p_pickF rfl rfl) ?_
                    refine AO.nil ?_
                    have S359 := S316.front 11 rfl
                    have S360 := S359.front 11 rfl
                    have S361 := S360.front 11 rfl
                    have S362 := S361.front 11 rfl
                    have S363 := S362.front 11 rfl
                    have S364 := S363.front 11 rfl
                    have S365 := S364.keep 6
                    exact ⟨(!decide (x184 = x137)), (some_inj hd358), S365, Sub.cons' rfl rfl (Sub.cons' rfl rfl (Sub.cons' rfl rfl (Sub.cons' rfl rfl (Sub.cons' rfl rfl (Sub.cons' rfl rfl (Sub.cons' rfl rfl (Sub.nil _)))))))⟩
              · rintro t' G367 ⟨b331, rfl, S366, hsub368⟩
                refine AX.sub hsub368 ?_
                refine AX.cond rfl (fun c369 => ?_) (fun c369 => ?_)
                · have hd370 := bif_t c369 hd334
                  refine AX.seq ?_
                  refine AX.region ?_
                  refine AO.p rfl (p_assign rfl) ?_
                  refine AO.nil ?_
                  refine AX.ret ?_
                  obtain rfl := some_inj hd370
                  exact ⟨.inr rfl, _, res1 rfl (rv_tmp rfl), rfl, (flatB_ok rfl), S366.hold⟩
                · have hd371 := bif_f c369 hd334
                  refine AX.skip ?_
                  refine AX.seq ?_
                  refine AX.region ?_
                  refine AO.p rfl (p_assign rfl) ?_
                  refine AO.nil ?_
                  refine AX.seq ?_
                  refine AX.region ?_
                  refine AO.c rfl (s_loadN (vs := [.int .i64 x182, .slice p187 rs183.length c188]) Try.isAgg53 Try.sizeOf53 rfl rfl (row_cells (S366.get (k := 3) rfl))) ?_
                  refine AO.p rfl (p_move rfl) ?_
                  have S372 := S366.front 5 rfl
                  have S373 := S372.front 5 rfl
                  obtain ⟨⟨x374, rs375⟩, h376, hd377⟩ := bnd_some hd371
                  obtain ⟨_, G383, hc382, T378, rfl, S384, t379, s380, l381⟩ := W_laws_markSquare fu G367 x182 p187 c188 T191 rs183 t192 B190 s193 1 ((S373).join2.onodup (k := 0) rfl) ((S373).join2.omem (k := 0) rfl) x374 rs375 h376
                  have S385 := St.callM (A := [oseg p187 (tcells T191), tseg T191]) S373 S384 (by simp)
                  refine AO.c rfl (o_call (vs := [.agg [.int .i64 x182, .slice p187 rs183.length c188].toArray, .int .i64 1]) rfl Try.call37 hc382) ?_
                  refine AO.p rfl (p_assign rfl) ?_
                  refine AO.nil ?_
                  refine AX.seq ?_
                  refine AX.region ?_
                  refine AO.p rfl (p_assign rfl) ?_
                  refine AO.nil ?_
                  refine AX.seq ?_
                  refine AX.region ?_
                  refine AO.c rfl (s_loadN (vs := [.int .i64 x182, .slice p187 rs183.length c188]) Try.isAgg53 Try.sizeOf53 rfl rfl (row_cells (S385.get (k := 5) rfl))) ?_
                  refine AO.p rfl (p_move rfl) ?_
                  obtain ⟨x386, h387, hd388⟩ := bnd_some hd377
                  refine AO.c rfl (o_call (vs := [.agg [.int .i64 x182, .slice p187 rs183.length c188].toArray, .int .i64 1]) rfl Try.call38 (by have h' := W_laws_heldSquare fu G383 x182 p187 c188 T378 rs375 t379 (by rw [show List.length rs375 = rs183.length from (Eq.trans l381 rfl)]; exact (S385.oview (k := 0) rfl B190 (tc_len1 t379 (Eq.trans l381 rfl)))) (S385.oviewT (k := 1) rfl s380) 1 x386 h387; rw [show List.length rs375 = rs183.length from (Eq.trans l381 rfl)] at h'; exact h')) ?_
                  refine AO.p rfl (p_assign rfl) ?_
                  refine AO.nil ?_
                  refine AX.seq ?_
                  refine AX.seq ?_
                  refine AX.region ?_
                  refine AO.p rfl (p_move rfl) ?_
                  refine AO.p rfl (p_lss rfl rfl) ?_
                  refine AO.nil ?_
                  refine AX.cond rfl (fun c390 => ?_) (fun c390 => ?_)
                  · have hd391 := bif_t c390 hd388
                    refine AX.seq ?_
                    refine AX.region ?_
                    refine AO.p rfl (p_assign rfl) ?_
                    refine AO.nil ?_
                    refine AX.ret ?_
                    obtain rfl := some_inj hd391
                    exact ⟨.inr rfl, _, res1 rfl (rv_tmp rfl), rfl, (flatB_ok rfl), S385.hold⟩
                  · have hd392 := bif_f c390 hd388
                    refine AX.skip ?_
                    refine AX.seq ?_
                    refine AX.seq ?_
                    refine AX.region ?_
                    refine AO.p rfl (p_move rfl) ?_
                    refine AO.p rfl (p_move rfl) ?_
                    refine AO.p rfl (p_neq rfl rfl) ?_
                    refine AO.nil ?_
                    refine AX.cond rfl (fun c393 => ?_) (fun c393 => ?_)
                    · have hd394 := bif_t c393 hd392
                      refine AX.seq ?_
                      refine AX.region ?_
                      refine AO.p rfl (p_assign rfl) ?_
                      refine AO.nil ?_
                      refine AX.ret ?_
                      obtain rfl := some_inj hd394
                      exact ⟨.inr rfl, _, res1 rfl (rv_tmp rfl), rfl, (flatB_ok rfl), S385.hold⟩
                    · have hd395 := bif_f c393 hd392
                      refine AX.skip ?_
                      refine AX.seq ?_
                      refine AX.region ?_
                      refine AO.p rfl (p_move rfl) ?_
                      refine AO.p rfl (p_move rfl) ?_
                      obtain ⟨rs396, h397, hd398⟩ := bnd_some hd395
                      obtain ⟨_, G407, hc406, p399, c400, T403, rfl, S408, B402, t404, s405⟩ := W_laws_toInt64SS fu G383 p_a1 c_a1 T_a1 a1 t_a1 (S385.view v_a1) (S385.tview w_a1) rs396 h397
                      have S409 := S385.call S408
                      refine AO.c rfl (o_call (vs := [.slice p_a1 a1.length c_a1]) rfl Try.call15 hc406) ?_
                      refine AO.p rfl (p_move rfl) ?_
                      obtain ⟨xs410, h411, hd412⟩ := bnd_some hd398
                      obtain ⟨_, G418, hc417, p413, c414, rfl, S419, B416⟩ := W_laws_toInt64S fu G407 p_a2 c_a2 a2 (S409.view v_a2) xs410 h411
                      have S420 := S409.call S419
                      refine AO.c rfl (o_call (vs := [.slice p_a2 a2.length c_a2]) rfl Try.call23 hc417) ?_
                      obtain ⟨⟨x421, rs422, x423⟩, h424, hd425⟩ := bnd_some hd412
                      obtain ⟨_, G434, hc433, p426, c427, T430, rfl, S435, B429, t431, s432⟩ := W_impl_SquareOfStarter fu G418 a0 p399 c400 T403 rs396 t404 (S420.oview (k := 1) rfl B402 (tc_len1 t404 rfl)) (S420.oviewT (k := 2) rfl s405) p413 c414 xs410 (S420.oview (k := 0) rfl B416 (ints_len1 rfl)) x421 rs422 x423 h424
                      have S436 := S420.call S435
                      refine AO.c rfl (o_call (vs := [.int .i64 a0, .slice p399 rs396.length c400, .slice p413 xs410.length c414]) rfl Try.call50 hc433) ?_
                      refine AO.p rfl (p_move rfl) ?_
                      refine AO.p rfl (p_extract rfl rfl) ?_
                      refine AO.p rfl (p_extract rfl rfl) ?_
                      obtain ⟨G437, i438, hii438, hHG437, S439⟩ := S436.new (AObj.row false ([.int .i64 0, .slice none 0 0]))
                      refine AO.c rfl (s_alloc (i := i438) (cs := [.int .i64 0, .slice none 0 0]) Try.zeroValue53 rfl rfl hii438 hHG437) ?_
                      obtain ⟨G441, hHG441, S442⟩ := S439.set (k := 0) (i := i438) rfl (AObj.row false ([.int .i64 x421, .slice p426 rs422.length c427]))
                      refine AO.s (s_storeAll (vs := [.int .i64 x421, .slice p426 rs422.length c427]) Try.sizeOf53 rfl rfl (ones_list rfl) (S439.get (k := 0) rfl) rfl rfl hHG441) ?_
                      refine AO.p rfl (p_assign rfl) ?_
                      refine AO.nil ?_
                      refine AX.seq ?_
                      obtain ⟨r453, hb454, hd455⟩ := bnd_some hd425
                      refine AX.cut (fun t' H' => ∃ (b452 : Bool), b452 = r453 ∧ St [] H H' [[(i199, AObj.row false ([.int .i64 x182, .slice p187 rs183.length c188]))], oseg p187 (tcells T378), tseg T378] ∧ Am.Sub [(12, .pointer (some ⟨i199, 0, none⟩)), (15, .int .i64 x374), (113, .bool b452)] t') ?_ ?_
                      · skip
                        refine AX.region ?_
                        refine AO.c rfl (s_loadN (vs := [.int .i64 x421, .slice p426 rs422.length c427]) Try.isAgg53 Try.sizeOf53 rfl rfl (row_cells (S442.get (k := 0) rfl))) ?_
                        refine AO.c rfl (s_loadN (vs := [.int .i64 x135, .slice p140 rs136.length c141]) Try.isAgg53 Try.sizeOf53 rfl rfl (row_cells (S442.get (k := 8) rfl))) ?_
                        obtain ⟨b456, h457, hd458⟩ := bnd_some hb454
                        refine AO.c rfl (o_call (vs := [.agg [.int .i64 x421, .slice p426 rs422.length c427].toArray, .agg [.int .i64 x135, .slice p140 rs136.length c141].toArray]) rfl Try.call36 (W_laws_eqSquare fu G441 x421 p426 c427 T430 rs422 t431 (S442.oview (k := 1) rfl B429 (tc_len1 t431 rfl)) (S442.oviewT (k := 2) rfl s432) x135 p140 c141 T144 rs136 t145 (S442.oview (k := 9) rfl B143 (tc_len1 t145 rfl)) (S442.oviewT (k := 10) rfl s146) b456 h457)) ?_
                        refine AO.p rfl (p_not rfl) ?_
                        refine AO.p rfl (p_move rfl) ?_
                        refine AO.cases (d := 109) rfl (fun c460 => ?_) (fun c460 => ?_)
                        · have hd461 := bif_t c460 hd458
                          refine AO.gn rfl rfl rfl ?_
                          refine AO.gn rfl rfl rfl ?_
                          refine AO.gn rfl rfl rfl ?_
                          refine AO.p rfl (p_pickT rfl rfl) ?_
                          refine AO.nil ?_
                          have S462 := S442.front 7 rfl
                          have S463 := S462.front 7 rfl
                          have S464 := S463.front 11 rfl
                          have S465 := S464.keep 3
                          exact ⟨true, (some_inj hd461), S465, Sub.cons' rfl rfl (Sub.cons' rfl rfl (Sub.cons' rfl rfl (Sub.nil _)))⟩
                        · have hd466 := bif_f c460 hd458
                          refine AO.gp rfl rfl rfl (p_move rfl) ?_
                          refine AO.gp rfl rfl rfl (p_move rfl) ?_
                          refine AO.gp rfl rfl rfl (p_neq rfl rfl) ?_
                          refine AO.p rfl (p_pickF rfl rfl) ?_
                          refine AO.nil ?_
                          have S467 := S442.front 7 rfl
                          have S468 := S467.front 7 rfl
                          have S469 := S468.front 11 rfl
                          have S470 := S469.keep 3
                          exact ⟨(!decide (x423 = x137)), (some_inj hd466), S470, Sub.cons' rfl rfl (Sub.cons' rfl rfl (Sub.cons' rfl rfl (Sub.nil _)))⟩
                      · rintro t' G472 ⟨b452, rfl, S471, hsub473⟩
                        refine AX.sub hsub473 ?_
                        refine AX.cond rfl (fun c474 => ?_) (fun c474 => ?_)
                        · have hd475 := bif_t c474 hd455
                          refine AX.seq ?_
                          refine AX.region ?_
                          refine AO.p rfl (p_assign rfl) ?_
                          refine AO.nil ?_
                          refine AX.ret ?_
                          obtain rfl := some_inj hd475
                          exact ⟨.inr rfl, _, res1 rfl (rv_tmp rfl), rfl, (flatB_ok rfl), S471.hold⟩
                        · have hd476 := bif_f c474 hd455
                          refine AX.skip ?_
                          refine AX.seq ?_
                          refine AX.region ?_
                          refine AO.p rfl (p_assign rfl) ?_
                          refine AO.nil ?_
                          refine AX.seq ?_
                          refine AX.region ?_
                          refine AO.c rfl (s_loadN (vs := [.int .i64 x182, .slice p187 rs183.length c188]) Try.isAgg53 Try.sizeOf53 rfl rfl (row_cells (S471.get (k := 0) rfl))) ?_
                          refine AO.p rfl (p_move rfl) ?_
                          obtain ⟨x477, h478, hd479⟩ := bnd_some hd476
                          refine AO.c rfl (o_call (vs := [.agg [.int .i64 x182, .slice p187 rs183.length c188].toArray, .int .i64 1]) rfl Try.call38 (by have h' := W_laws_heldSquare fu G472 x182 p187 c188 T378 rs375 t379 (by rw [show List.length rs375 = rs183.length from (Eq.trans l381 rfl)]; exact (S471.oview (k := 1) rfl B190 (tc_len1 t379 (Eq.trans l381 rfl)))) (S471.oviewT (k := 2) rfl s380) 1 x477 h478; rw [show List.length rs375 = rs183.length from (Eq.trans l381 rfl)] at h'; exact h')) ?_
                          refine AO.p rfl (p_assign rfl) ?_
                          refine AO.nil ?_
                          refine AX.seq ?_
                          refine AX.seq ?_
                          refine AX.region ?_
                          refine AO.p rfl (p_move rfl) ?_
                          refine AO.p rfl (p_lss rfl rfl) ?_
                          refine AO.nil ?_
                          refine AX.cond rfl (fun c481 => ?_) (fun c481 => ?_)
                          · have hd482 := bif_t c481 hd479
                            refine AX.seq ?_
                            refine AX.region ?_
                            refine AO.p rfl (p_assign rfl) ?_
                            refine AO.nil ?_
                            refine AX.ret ?_
                            obtain rfl := some_inj hd482
                            exact ⟨.inr rfl, _, res1 rfl (rv_tmp rfl), rfl, (flatB_ok rfl), S471.hold⟩
                          · have hd483 := bif_f c481 hd479
                            refine AX.skip ?_
                            refine AX.seq ?_
                            refine AX.seq ?_
                            refine AX.region ?_
                            refine AO.p rfl (p_move rfl) ?_
                            refine AO.p rfl (p_move rfl) ?_
                            refine AO.p rfl (p_neq rfl rfl) ?_
                            refine AO.nil ?_
                            refine AX.cond rfl (fun c484 => ?_) (fun c484 => ?_)
                            · have hd485 := bif_t c484 hd483
                              refine AX.seq ?_
                              refine AX.region ?_
                              refine AO.p rfl (p_assign rfl) ?_
                              refine AO.nil ?_
                              refine AX.ret ?_
                              obtain rfl := some_inj hd485
                              exact ⟨.inr rfl, _, res1 rfl (rv_tmp rfl), rfl, (flatB_ok rfl), S471.hold⟩
                            · have hd486 := bif_f c484 hd483
                              refine AX.skip ?_
                              refine AX.seq ?_
                              refine AX.region ?_
                              refine AO.p rfl (p_assign rfl) ?_
                              refine AO.nil ?_
                              refine AX.ret ?_
                              obtain rfl := some_inj hd486
                              exact ⟨.inr rfl, _, res1 rfl (rv_tmp rfl), rfl, (flatB_ok rfl), S471.hold⟩

end Go.Proofs.Ytakfkiahhfdjfaa
