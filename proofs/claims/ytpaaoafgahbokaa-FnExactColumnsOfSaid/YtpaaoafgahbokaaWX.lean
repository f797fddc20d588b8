/-
  The program computes that, printed by a program. No condition.
-/
import Derived.Test.YtpaaoafgahbokaaDX
import Derived.Test.YtpaaoafgahbokaaWF
import Derived.Test.YtpaaoafgahbokaaProg
import Derived.KernelRfl
namespace Go.Proofs.Ytpaaoafgahbokaa
open Go Go.RowKit Am
set_option linter.unusedVariables false
set_option linter.unusedSimpArgs false
set_option maxRecDepth 20000
set_option maxHeartbeats 4000000 in
theorem W_laws_FnExactTransposeSquare (fu : Nat) (H : AHeap) (a0_0 : Int) (p_a0_1 : Option Addr) (c_a0_1 : Nat) (T_a0_1 : Tb) (a0_1 : List (List Int)) (t_a0_1 : trows T_a0_1 = a0_1) (v_a0_1 : Vw H p_a0_1 a0_1.length c_a0_1 (tcells T_a0_1)) (w_a0_1 : TVw H T_a0_1) (r0 : Bool) (hd : D_laws_FnExactTransposeSquare fu a0_0 a0_1 = some r0) : ACall Try.prog 3 [.agg [.int .i64 a0_0, .slice p_a0_1 a0_1.length c_a0_1].toArray] H (.bool r0) H := by
  refine ACall.bodyP (N := 96) [(0, .agg [.int .i64 a0_0, .slice p_a0_1 a0_1.length c_a0_1].toArray)] Try.func3 rfl rfl rfl rfl ?_
  unfold D_laws_FnExactTransposeSquare at hd
  have S0 : St [] H H [] := St.nil H
  refine AX.seq ?_
  refine AX.region ?_
  obtain ⟨G100, i101, hii101, hHG100, S102⟩ := S0.new (AObj.row false ([.int .i64 a0_0, .slice p_a0_1 a0_1.length c_a0_1]))
  refine AO.c rfl (s_box (i := i101) (cs := [.int .i64 a0_0, .slice p_a0_1 a0_1.length c_a0_1]) rfl hii101 rfl hHG100) ?_
  refine AO.p rfl (p_assign rfl) ?_
  refine AO.nil ?_
  refine AX.seq ?_
  refine AX.region ?_
  refine AO.p rfl (p_assign rfl) ?_
  refine AO.nil ?_
  refine AX.seq ?_
  refine AX.region ?_
  refine AO.c rfl (s_loadN (vs := [.int .i64 a0_0, .slice p_a0_1 a0_1.length c_a0_1]) Try.isAgg24 Try.sizeOf24 rfl rfl (row_cells (S102.get (k := 0) rfl))) ?_
  refine AO.p rfl (p_move rfl) ?_
  obtain ⟨x104, h105, hd106⟩ := bnd_some hd
  refine AO.c rfl (o_call (vs := [.agg [.int .i64 a0_0, .slice p_a0_1 a0_1.length c_a0_1].toArray, .int .i64 1048576]) rfl Try.call15 (W_laws_szSquare fu G100 a0_0 p_a0_1 c_a0_1 T_a0_1 a0_1 t_a0_1 (S102.view v_a0_1) (S102.tview w_a0_1) 1048576 x104 h105)) ?_
  refine AO.p rfl (p_assign rfl) ?_
  refine AO.nil ?_
  refine AX.seq ?_
  refine AX.seq ?_
  refine AX.region ?_
  refine AO.p rfl (p_move rfl) ?_
  refine AO.p rfl (p_lss rfl rfl) ?_
  refine AO.nil ?_
  refine AX.cond rfl (fun c108 => ?_) (fun c108 => ?_)
  · have hd109 := bif_t c108 hd106
    refine AX.seq ?_
    refine AX.region ?_
    refine AO.p rfl (p_assign rfl) ?_
    refine AO.nil ?_
    refine AX.ret ?_
    obtain rfl := some_inj hd109
    exact ⟨.inr rfl, _, res1 rfl (rv_tmp rfl), rfl, (flatB_ok rfl), S102.hold⟩
  · have hd110 := bif_f c108 hd106
    refine AX.skip ?_
    refine AX.seq ?_
    refine AX.region ?_
    refine AO.c rfl (s_loadN (vs := [.int .i64 a0_0, .slice p_a0_1 a0_1.length c_a0_1]) Try.isAgg24 Try.sizeOf24 rfl rfl (row_cells (S102.get (k := 0) rfl))) ?_
    obtain ⟨⟨x111, rs112⟩, h113, hd114⟩ := bnd_some hd110
    obtain ⟨_, G123, hc122, p115, c116, T119, rfl, S124, B118, t120, s121⟩ := W_laws_toSquare fu G100 a0_0 p_a0_1 c_a0_1 T_a0_1 a0_1 t_a0_1 (S102.view v_a0_1) (S102.tview w_a0_1) x111 rs112 h113
    have S125 := S102.call S124
    refine AO.c rfl (o_call (vs := [.agg [.int .i64 a0_0, .slice p_a0_1 a0_1.length c_a0_1].toArray]) rfl Try.call17 hc122) ?_
    obtain ⟨⟨x126, rs127, x128⟩, h129, hd130⟩ := bnd_some hd114
    obtain ⟨_, G139, hc138, p131, c132, T135, rfl, S140, B134, t136, s137⟩ := W_spec_TransposeSquare fu G123 x111 p115 c116 T119 rs112 t120 (S125.oview (k := 0) rfl B118 (tc_len1 t120 rfl)) (S125.oviewT (k := 1) rfl s121) x126 rs127 x128 h129
    have S141 := S125.call S140
    refine AO.c rfl (o_call (vs := [.agg [.int .i64 x111, .slice p115 rs112.length c116].toArray]) rfl Try.call16 hc138) ?_
    refine AO.p rfl (p_move rfl) ?_
    refine AO.p rfl (p_extract rfl rfl) ?_
    refine AO.p rfl (p_extract rfl rfl) ?_
    obtain ⟨G142, i143, hii143, hHG142, S144⟩ := S141.new (AObj.row false ([.int .i64 0, .slice none 0 0]))
    refine AO.c rfl (s_alloc (i := i143) (cs := [.int .i64 0, .slice none 0 0]) Try.zeroValue26 rfl rfl hii143 hHG142) ?_
    obtain ⟨G146, hHG146, S147⟩ := S144.set (k := 0) (i := i143) rfl (AObj.row false ([.int .i64 x126, .slice p131 rs127.length c132]))
    refine AO.s (s_storeAll (vs := [.int .i64 x126, .slice p131 rs127.length c132]) Try.sizeOf26 rfl rfl (ones_list rfl) (S144.get (k := 0) rfl) rfl rfl hHG146) ?_
    refine AO.p rfl (p_assign rfl) ?_
    refine AO.nil ?_
    refine AX.seq ?_
    refine AX.region ?_
    refine AO.c rfl (s_loadN (vs := [.int .i64 a0_0, .slice p_a0_1 a0_1.length c_a0_1]) Try.isAgg24 Try.sizeOf24 rfl rfl (row_cells (S147.get (k := 5) rfl))) ?_
    obtain ⟨⟨x148, rs149⟩, h150, hd151⟩ := bnd_some hd130
    obtain ⟨_, G160, hc159, p152, c153, T156, rfl, S161, B155, t157, s158⟩ := W_laws_toSquare fu G146 a0_0 p_a0_1 c_a0_1 T_a0_1 a0_1 t_a0_1 (S147.view v_a0_1) (S147.tview w_a0_1) x148 rs149 h150
    have S162 := S147.call S161
    refine AO.c rfl (o_call (vs := [.agg [.int .i64 a0_0, .slice p_a0_1 a0_1.length c_a0_1].toArray]) rfl Try.call17 hc159) ?_
    obtain ⟨G163, i164, hii164, hHG163, S165⟩ := S162.new (AObj.row false ([.int .i64 0, .slice none 0 0]))
    refine AO.c rfl (s_alloc (i := i164) (cs := [.int .i64 0, .slice none 0 0]) Try.zeroValue26 rfl rfl hii164 hHG163) ?_
    obtain ⟨G167, hHG167, S168⟩ := S165.set (k := 0) (i := i164) rfl (AObj.row false ([.int .i64 x148, .slice p152 rs149.length c153]))
    refine AO.s (s_storeAll (vs := [.int .i64 x148, .slice p152 rs149.length c153]) Try.sizeOf26 rfl rfl (ones_list rfl) (S165.get (k := 0) rfl) rfl rfl hHG167) ?_
    refine AO.nil ?_
    refine AX.seq ?_
    refine AX.region ?_
    refine AO.c rfl (s_loadN (vs := [.int .i64 x148, .slice p152 rs149.length c153]) Try.isAgg26 Try.sizeOf26 rfl rfl (row_cells (S168.get (k := 0) rfl))) ?_
    obtain ⟨⟨x169, rs170, x171⟩, h172, hd173⟩ := bnd_some hd151
    obtain ⟨_, G182, hc181, p174, c175, T178, rfl, S183, B177, t179, s180⟩ := W_impl_TransposeSquare fu G167 x148 p152 c153 T156 rs149 t157 (S168.oview (k := 1) rfl B155 (tc_len1 t157 rfl)) (S168.oviewT (k := 2) rfl s158) x169 rs170 x171 h172
    have S184 := S168.call S183
    refine AO.c rfl (o_call (vs := [.agg [.int .i64 x148, .slice p152 rs149.length c153].toArray]) rfl Try.call18 hc181) ?_
    refine AO.p rfl (p_move rfl) ?_
    refine AO.p rfl (p_extract rfl rfl) ?_
    refine AO.p rfl (p_extract rfl rfl) ?_
    obtain ⟨G185, i186, hii186, hHG185, S187⟩ := S184.new (AObj.row false ([.int .i64 0, .slice none 0 0]))
    refine AO.c rfl (s_alloc (i := i186) (cs := [.int .i64 0, .slice none 0 0]) Try.zeroValue26 rfl rfl hii186 hHG185) ?_
    obtain ⟨G189, hHG189, S190⟩ := S187.set (k := 0) (i := i186) rfl (AObj.row false ([.int .i64 x169, .slice p174 rs170.length c175]))
    refine AO.s (s_storeAll (vs := [.int .i64 x169, .slice p174 rs170.length c175]) Try.sizeOf26 rfl rfl (ones_list rfl) (S187.get (k := 0) rfl) rfl rfl hHG189) ?_
    refine AO.p rfl (p_assign rfl) ?_
    refine AO.nil ?_
    refine AX.seq ?_
    obtain ⟨r206, hb207, hd208⟩ := bnd_some hd173
    refine AX.cut (fun t' H' => ∃ (b205 : Bool), b205 = r206 ∧ St [] H H' [[(i101, AObj.row false ([.int .i64 a0_0, .slice p_a0_1 a0_1.length c_a0_1]))], [(i143, AObj.row false ([.int .i64 x126, .slice p131 rs127.length c132]))], oseg p131 (tcells T135), tseg T135, [(i164, AObj.row false ([.int .i64 x148, .slice p152 rs149.length c153]))], oseg p152 (tcells T156), tseg T156, [(i186, AObj.row false ([.int .i64 x169, .slice p174 rs170.length c175]))], oseg p174 (tcells T178), tseg T178] ∧ Am.Sub [(1, .pointer (some ⟨i101, 0, none⟩)), (4, .pointer (some ⟨i143, 0, none⟩)), (5, .int .i64 x128), (6, .pointer (some ⟨i164, 0, none⟩)), (7, .pointer (some ⟨i186, 0, none⟩)), (8, .int .i64 x171), (40, .bool b205)] t') ?_ ?_
    · skip
      refine AX.region ?_
      refine AO.c rfl (s_loadN (vs := [.int .i64 x169, .slice p174 rs170.length c175]) Try.isAgg26 Try.sizeOf26 rfl rfl (row_cells (S190.get (k := 0) rfl))) ?_
      refine AO.c rfl (s_loadN (vs := [.int .i64 x126, .slice p131 rs127.length c132]) Try.isAgg26 Try.sizeOf26 rfl rfl (row_cells (S190.get (k := 6) rfl))) ?_
      obtain ⟨b209, h210, hd211⟩ := bnd_some hb207
      refine AO.c rfl (o_call (vs := [.agg [.int .i64 x169, .slice p174 rs170.length c175].toArray, .agg [.int .i64 x126, .slice p131 rs127.length c132].toArray]) rfl Try.call19 (W_laws_eqSquare fu G189 x169 p174 c175 T178 rs170 t179 (S190.oview (k := 1) rfl B177 (tc_len1 t179 rfl)) (S190.oviewT (k := 2) rfl s180) x126 p131 c132 T135 rs127 t136 (S190.oview (k := 7) rfl B134 (tc_len1 t136 rfl)) (S190.oviewT (k := 8) rfl s137) b209 h210)) ?_
      refine AO.p rfl (p_not rfl) ?_
      refine AO.p rfl (p_move rfl) ?_
      refine AO.cases (d := 36) rfl (fun c213 => ?_) (fun c213 => ?_)
      · have hd214 := bif_t c213 hd211
        refine AO.gn rfl rfl rfl ?_
        refine AO.gn rfl rfl rfl ?_
        refine AO.gn rfl rfl rfl ?_
        refine AO.p rfl (p_pickT rfl rfl) ?_
        refine AO.nil ?_
        have S215 := S190.front 2 rfl
        have S216 := S215.front 2 rfl
        have S217 := S216.front 2 rfl
        have S218 := S217.front 5 rfl
        have S219 := S218.front 5 rfl
        have S220 := S219.front 5 rfl
        have S221 := S220.front 8 rfl
        have S222 := S221.front 8 rfl
        have S223 := S222.front 8 rfl
        have S224 := S223.front 11 rfl
        have S225 := S224.keep 10
        exact ⟨true, (some_inj hd214), S225, Sub.cons' rfl rfl (Sub.cons' rfl rfl (Sub.cons' rfl rfl (Sub.cons' rfl rfl (Sub.cons' rfl rfl (Sub.cons' rfl rfl (Sub.cons' rfl rfl (Sub.nil _)))))))⟩
      · have hd226 := bif_f c213 hd211
        refine AO.gp rfl rfl rfl (p_move rfl) ?_
        refine AO.gp rfl rfl rfl (p_move rfl) ?_
        refine AO.gp rfl rfl rfl (p_neq rfl rfl) ?_
        refine AO.p rfl (p_pickF rfl rfl) ?_
        refine AO.nil ?_
        have S227 := S190.front 2 rfl
        have S228 := S227.front 2 rfl
        have S229 := S228.front 2 rfl
        have S230 := S229.front 5 rfl
        have S231 := S230.front 5 rfl
        have S232 := S231.front 5 rfl
        have S233 := S232.front 8 rfl
        have S234 := S233.front 8 rfl
        have S235 := S234.front 8 rfl
        have S236 := S235.front 11 rfl
        have S237 := S236.keep 10
        exact ⟨(!decide (x171 = x128)), (some_inj hd226), S237, Sub.cons' rfl rfl (Sub.cons' rfl rfl (Sub.cons' rfl rfl (Sub.cons' rfl rfl (Sub.cons' rfl rfl (Sub.cons' rfl rfl (Sub.cons' rfl rfl (Sub.nil _)))))))⟩
    · rintro t' G239 ⟨b205, rfl, S238, hsub240⟩
      refine AX.sub hsub240 ?_
      refine AX.cond rfl (fun c241 => ?_) (fun c241 => ?_)
      · have hd242 := bif_t c241 hd208
        refine AX.seq ?_
        refine AX.region ?_
        refine AO.p rfl (p_assign rfl) ?_
        refine AO.nil ?_
        refine AX.ret ?_
        obtain rfl := some_inj hd242
        exact ⟨.inr rfl, _, res1 rfl (rv_tmp rfl), rfl, (flatB_ok rfl), S238.hold⟩
      · have hd243 := bif_f c241 hd208
        refine AX.skip ?_
        refine AX.seq ?_
        refine AX.seq ?_
        refine DR.startS [false, false, true, true, false] mix (by kernel_rfl) (fun hst => ?_)
        refine DR.r rfl rfl (r_loadN (vs := [.int .i64 x148, .slice p152 rs149.length c153]) rfl Try.isAgg26 Try.sizeOf26 rfl) (many_row (row_cells (S238.get (k := 4) rfl)) (bel_cons (.of_flat0 rfl) (bel_cons (S238.oin (k := 5) rfl B155).bel bel_nil))) ?_
        refine DR.r rfl rfl (r_loadN (vs := [.int .i64 a0_0, .slice p_a0_1 a0_1.length c_a0_1]) rfl Try.isAgg24 Try.sizeOf24 rfl) (many_row (row_cells (S238.get (k := 0) rfl)) (bel_cons (.of_flat0 rfl) (bel_cons (S238.view v_a0_1).inn.bel bel_nil))) ?_
        obtain ⟨⟨x244, rs245⟩, h246, hd247⟩ := bnd_some hd243
        obtain ⟨_, G256, hc255, p248, c249, T252, rfl, S257, B251, t253, s254⟩ := W_laws_toSquare fu G239 a0_0 p_a0_1 c_a0_1 T_a0_1 a0_1 t_a0_1 (S238.view v_a0_1) (S238.tview w_a0_1) x244 rs245 h246
        have S258 := S238.call S257
        refine DR.w rfl rfl (o_call (vs := [.agg [.int .i64 a0_0, .slice p_a0_1 a0_1.length c_a0_1].toArray]) rfl Try.call17 hc255) (S257.len) ?_
        obtain ⟨b259, h260, hd261⟩ := bnd_some hd247
        refine DR.w rfl rfl (o_call (vs := [.agg [.int .i64 x148, .slice p152 rs149.length c153].toArray, .agg [.int .i64 x244, .slice p248 rs245.length c249].toArray]) rfl Try.call19 (W_laws_eqSquare fu G256 x148 p152 c153 T156 rs149 t157 (S258.oview (k := 7) rfl B155 (tc_len1 t157 rfl)) (S258.oviewT (k := 8) rfl s158) x244 p248 c249 T252 rs245 t253 (S258.oview (k := 0) rfl B251 (tc_len1 t253 rfl)) (S258.oviewT (k := 1) rfl s254) b259 h260)) (Nat.le_refl _) ?_
        refine DR.p rfl rfl (p_not rfl) ?_
        refine DR.nil 5 [(0, 2)] hst (by kernel_rfl) ⟨(rdN (fun h => S257.hold _ h)), trivial⟩ ?_
        refine AX.cond rfl (fun c263 => ?_) (fun c263 => ?_)
        · have hd264 := bif_t c263 hd261
          refine AX.seq ?_
          refine AX.region ?_
          refine AO.p rfl (p_assign rfl) ?_
          refine AO.nil ?_
          refine AX.ret ?_
          obtain rfl := some_inj hd264
          exact ⟨.inr rfl, _, res1 rfl (rv_tmp rfl), rfl, (flatB_ok rfl), S258.hold⟩
        · have hd265 := bif_f c263 hd261
          refine AX.skip ?_
          refine AX.seq ?_
          refine AX.region ?_
          refine AO.p rfl (p_assign rfl) ?_
          refine AO.nil ?_
          refine AX.seq ?_
          refine AX.region ?_
          refine AO.c rfl (s_loadN (vs := [.int .i64 x148, .slice p152 rs149.length c153]) Try.isAgg26 Try.sizeOf26 rfl rfl (row_cells (S258.get (k := 6) rfl))) ?_
          refine AO.p rfl (p_move rfl) ?_
          have S266 := S258.front 8 rfl
          have S267 := S266.front 8 rfl
          obtain ⟨⟨x268, rs269⟩, h270, hd271⟩ := bnd_some hd265
          obtain ⟨_, G277, hc276, T272, rfl, S278, t273, s274, l275⟩ := W_laws_markSquare fu G256 x148 p152 c153 T156 rs149 t157 B155 s158 1 ((S267).join2.onodup (k := 0) rfl) ((S267).join2.omem (k := 0) rfl) x268 rs269 h270
          have S279 := St.callM (A := [oseg p152 (tcells T156), tseg T156]) S267 S278 (by simp)
          refine AO.c rfl (o_call (vs := [.agg [.int .i64 x148, .slice p152 rs149.length c153].toArray, .int .i64 1]) rfl Try.call20 hc276) ?_
          refine AO.p rfl (p_assign rfl) ?_
          refine AO.nil ?_
          refine AX.seq ?_
          obtain ⟨r296, hb297, hd298⟩ := bnd_some hd271
          refine AX.cut (fun t' H' => ∃ (b295 : Bool), b295 = r296 ∧ St [] H H' [[(i101, AObj.row false ([.int .i64 a0_0, .slice p_a0_1 a0_1.length c_a0_1]))], [(i143, AObj.row false ([.int .i64 x126, .slice p131 rs127.length c132]))], oseg p131 (tcells T135), tseg T135, [(i186, AObj.row false ([.int .i64 x169, .slice p174 rs170.length c175]))], oseg p174 (tcells T178), tseg T178] ∧ Am.Sub [(1, .pointer (some ⟨i101, 0, none⟩)), (4, .pointer (some ⟨i143, 0, none⟩)), (5, .int .i64 x128), (7, .pointer (some ⟨i186, 0, none⟩)), (61, .bool b295)] t') ?_ ?_
          · skip
            refine AX.region ?_
            refine AO.p rfl (p_move rfl) ?_
            refine AO.p rfl (p_lss rfl rfl) ?_
            refine AO.p rfl (p_move rfl) ?_
            refine AO.cases (d := 51) rfl (fun c299 => ?_) (fun c299 => ?_)
            · have hd300 := bif_t c299 hb297
              refine AO.gn rfl rfl rfl ?_
              refine AO.gn rfl rfl rfl ?_
              refine AO.gn rfl rfl rfl ?_
              refine AO.gn rfl rfl rfl ?_
              refine AO.p rfl (p_pickT rfl rfl) ?_
              refine AO.p rfl (p_move rfl) ?_
              refine AO.gn rfl rfl rfl ?_
              refine AO.gn rfl rfl rfl ?_
              refine AO.gn rfl rfl rfl ?_
              refine AO.p rfl (p_pickT rfl rfl) ?_
              refine AO.nil ?_
              have S301 := S279.front 11 rfl
              have S302 := S301.front 11 rfl
              have S303 := S302.front 11 rfl
              have S304 := S303.front 10 rfl
              have S305 := S304.front 10 rfl
              have S306 := S305.front 10 rfl
              have S307 := S306.front 10 rfl
              have S308 := S307.keep 7
              exact ⟨true, (some_inj hd300), S308, Sub.cons' rfl rfl (Sub.cons' rfl rfl (Sub.cons' rfl rfl (Sub.cons' rfl rfl (Sub.cons' rfl rfl (Sub.nil _)))))⟩
            · have hd309 := bif_f c299 hb297
              refine AO.gc rfl rfl rfl (s_loadN (vs := [.int .i64 x169, .slice p174 rs170.length c175]) Try.isAgg26 Try.sizeOf26 rfl rfl (row_cells (S279.get (k := 9) rfl))) ?_
              refine AO.gc rfl rfl rfl (s_loadN (vs := [.int .i64 x126, .slice p131 rs127.length c132]) Try.isAgg26 Try.sizeOf26 rfl rfl (row_cells (S279.get (k := 5) rfl))) ?_
              obtain ⟨b310, h311, hd312⟩ := bnd_some hd309
              refine AO.gc rfl rfl rfl (o_call (vs := [.agg [.int .i64 x169, .slice p174 rs170.length c175].toArray, .agg [.int .i64 x126, .slice p131 rs127.length c132].toArray]) rfl Try.call19 (W_laws_eqSquare fu G277 x169 p174 c175 T178 rs170 t179 (S279.oview (k := 10) rfl B177 (tc_len1 t179 rfl)) (S279.oviewT (k := 11) rfl s180) x126 p131 c132 T135 rs127 t136 (S279.oview (k := 6) rfl B134 (tc_len1 t136 rfl)) (S279.oviewT (k := 7) rfl s137) b310 h311)) ?_
              refine AO.gp rfl rfl rfl (p_not rfl) ?_
              refine AO.p rfl (p_pickF rfl rfl) ?_
              refine AO.p rfl (p_move rfl) ?_
              refine AO.cases (d := 57) rfl (fun c314 => ?_) (fun c314 => ?_)
              · have hd315 := bif_t c314 hd312
                refine AO.gn rfl rfl rfl ?_
                refine AO.gn rfl rfl rfl ?_
                refine AO.gn rfl rfl rfl ?_
                refine AO.p rfl (p_pickT rfl rfl) ?_
                refine AO.nil ?_
                have S316 := S279.front 11 rfl
                have S317 := S316.front 11 rfl
                have S318 := S317.front 11 rfl
                have S319 := S318.front 10 rfl
                have S320 := S319.front 10 rfl
                have S321 := S320.front 10 rfl
                have S322 := S321.front 10 rfl
                have S323 := S322.keep 7
                exact ⟨true, (some_inj hd315), S323, Sub.cons' rfl rfl (Sub.cons' rfl rfl (Sub.cons' rfl rfl (Sub.cons' rfl rfl (Sub.cons' rfl rfl (Sub.nil _)))))⟩
              · have hd324 := bif_f c314 hd312
                refine AO.gp rfl rfl rfl (p_move rfl) ?_
                refine AO.gp rfl rfl rfl (p_move rfl) ?_
                refine AO.gp rfl rfl rfl (p_neq rfl rfl) ?_
                refine AO.p rfl (p_pickF rfl rfl) ?_
                refine AO.nil ?_
                have S325 := S279.front 11 rfl
                have S326 := S325.front 11 rfl
                have S327 := S326.front 11 rfl
                have S328 := S327.front 10 rfl
                have S329 := S328.front 10 rfl
                have S330 := S329.front 10 rfl
                have S331 := S330.front 10 rfl
                have S332 := S331.keep 7
                exact ⟨(!decide (x171 = x128)), (some_inj hd324), S332, Sub.cons' rfl rfl (Sub.cons' rfl rfl (Sub.cons' rfl rfl (Sub.cons' rfl rfl (Sub.cons' rfl rfl (Sub.nil _)))))⟩
          · rintro t' G334 ⟨b295, rfl, S333, hsub335⟩
            refine AX.sub hsub335 ?_
            refine AX.cond rfl (fun c336 => ?_) (fun c336 => ?_)
            · have hd337 := bif_t c336 hd298
              refine AX.seq ?_
              refine AX.region ?_
              refine AO.p rfl (p_assign rfl) ?_
              refine AO.nil ?_
              refine AX.ret ?_
              obtain rfl := some_inj hd337
              exact ⟨.inr rfl, _, res1 rfl (rv_tmp rfl), rfl, (flatB_ok rfl), S333.hold⟩
            · have hd338 := bif_f c336 hd298
              refine AX.skip ?_
              refine AX.seq ?_
              refine AX.region ?_
              refine AO.p rfl (p_assign rfl) ?_
              refine AO.nil ?_
              refine AX.seq ?_
              refine AX.region ?_
              refine AO.c rfl (s_loadN (vs := [.int .i64 x169, .slice p174 rs170.length c175]) Try.isAgg26 Try.sizeOf26 rfl rfl (row_cells (S333.get (k := 4) rfl))) ?_
              refine AO.p rfl (p_move rfl) ?_
              have S339 := S333.front 6 rfl
              have S340 := S339.front 6 rfl
              obtain ⟨⟨x341, rs342⟩, h343, hd344⟩ := bnd_some hd338
              obtain ⟨_, G350, hc349, T345, rfl, S351, t346, s347, l348⟩ := W_laws_markSquare fu G334 x169 p174 c175 T178 rs170 t179 B177 s180 1 ((S340).join2.onodup (k := 0) rfl) ((S340).join2.omem (k := 0) rfl) x341 rs342 h343
              have S352 := St.callM (A := [oseg p174 (tcells T178), tseg T178]) S340 S351 (by simp)
              refine AO.c rfl (o_call (vs := [.agg [.int .i64 x169, .slice p174 rs170.length c175].toArray, .int .i64 1]) rfl Try.call20 hc349) ?_
              refine AO.p rfl (p_assign rfl) ?_
              refine AO.nil ?_
              refine AX.seq ?_
              refine AX.region ?_
              refine AO.p rfl (p_assign rfl) ?_
              refine AO.nil ?_
              refine AX.seq ?_
              refine AX.region ?_
              refine AO.c rfl (s_loadN (vs := [.int .i64 x169, .slice p174 rs170.length c175]) Try.isAgg26 Try.sizeOf26 rfl rfl (row_cells (S352.get (k := 6) rfl))) ?_
              refine AO.p rfl (p_move rfl) ?_
              obtain ⟨x353, h354, hd355⟩ := bnd_some hd344
              refine AO.c rfl (o_call (vs := [.agg [.int .i64 x169, .slice p174 rs170.length c175].toArray, .int .i64 1]) rfl Try.call21 (by have h' := W_laws_heldSquare fu G350 x169 p174 c175 T345 rs342 t346 (by rw [show List.length rs342 = rs170.length from (Eq.trans l348 rfl)]; exact (S352.oview (k := 0) rfl B177 (tc_len1 t346 (Eq.trans l348 rfl)))) (S352.oviewT (k := 1) rfl s347) 1 x353 h354; rw [show List.length rs342 = rs170.length from (Eq.trans l348 rfl)] at h'; exact h')) ?_
              refine AO.p rfl (p_assign rfl) ?_
              refine AO.nil ?_
              refine AX.seq ?_
              refine AX.seq ?_
              refine AX.region ?_
              refine AO.p rfl (p_move rfl) ?_
              refine AO.p rfl (p_lss rfl rfl) ?_
              refine AO.nil ?_
              refine AX.cond rfl (fun c357 => ?_) (fun c357 => ?_)
              · have hd358 := bif_t c357 hd355
                refine AX.seq ?_
                refine AX.region ?_
                refine AO.p rfl (p_assign rfl) ?_
                refine AO.nil ?_
                refine AX.ret ?_
                obtain rfl := some_inj hd358
                exact ⟨.inr rfl, _, res1 rfl (rv_tmp rfl), rfl, (flatB_ok rfl), S352.hold⟩
              · have hd359 := bif_f c357 hd355
                refine AX.skip ?_
                refine AX.seq ?_
                refine AX.seq ?_
                refine AX.region ?_
                refine AO.p rfl (p_move rfl) ?_
                refine AO.p rfl (p_move rfl) ?_
                refine AO.p rfl (p_neq rfl rfl) ?_
                refine AO.nil ?_
                refine AX.cond rfl (fun c360 => ?_) (fun c360 => ?_)
                · have hd361 := bif_t c360 hd359
                  refine AX.seq ?_
                  refine AX.region ?_
                  refine AO.p rfl (p_assign rfl) ?_
                  refine AO.nil ?_
                  refine AX.ret ?_
                  obtain rfl := some_inj hd361
                  exact ⟨.inr rfl, _, res1 rfl (rv_tmp rfl), rfl, (flatB_ok rfl), S352.hold⟩
                · have hd362 := bif_f c360 hd359
                  refine AX.skip ?_
                  refine AX.seq ?_
                  refine AX.region ?_
                  refine AO.c rfl (s_loadN (vs := [.int .i64 a0_0, .slice p_a0_1 a0_1.length c_a0_1]) Try.isAgg24 Try.sizeOf24 rfl rfl (row_cells (S352.get (k := 2) rfl))) ?_
                  obtain ⟨⟨x363, rs364⟩, h365, hd366⟩ := bnd_some hd362
                  obtain ⟨_, G375, hc374, p367, c368, T371, rfl, S376, B370, t372, s373⟩ := W_laws_toSquare fu G350 a0_0 p_a0_1 c_a0_1 T_a0_1 a0_1 t_a0_1 (S352.view v_a0_1) (S352.tview w_a0_1) x363 rs364 h365
                  have S377 := S352.call S376
                  refine AO.c rfl (o_call (vs := [.agg [.int .i64 a0_0, .slice p_a0_1 a0_1.length c_a0_1].toArray]) rfl Try.call17 hc374) ?_
                  obtain ⟨⟨x378, rs379, x380⟩, h381, hd382⟩ := bnd_some hd366
                  obtain ⟨_, G391, hc390, p383, c384, T387, rfl, S392, B386, t388, s389⟩ := W_impl_TransposeSquare fu G375 x363 p367 c368 T371 rs364 t372 (S377.oview (k := 0) rfl B370 (tc_len1 t372 rfl)) (S377.oviewT (k := 1) rfl s373) x378 rs379 x380 h381
                  have S393 := S377.call S392
                  refine AO.c rfl (o_call (vs := [.agg [.int .i64 x363, .slice p367 rs364.length c368].toArray]) rfl Try.call18 hc390) ?_
                  refine AO.p rfl (p_move rfl) ?_
                  refine AO.p rfl (p_extract rfl rfl) ?_
                  refine AO.p rfl (p_extract rfl rfl) ?_
                  obtain ⟨G394, i395, hii395, hHG394, S396⟩ := S393.new (AObj.row false ([.int .i64 0, .slice none 0 0]))
                  refine AO.c rfl (s_alloc (i := i395) (cs := [.int .i64 0, .slice none 0 0]) Try.zeroValue26 rfl rfl hii395 hHG394) ?_
                  obtain ⟨G398, hHG398, S399⟩ := S396.set (k := 0) (i := i395) rfl (AObj.row false ([.int .i64 x378, .slice p383 rs379.length c384]))
                  refine AO.s (s_storeAll (vs := [.int .i64 x378, .slice p383 rs379.length c384]) Try.sizeOf26 rfl rfl (ones_list rfl) (S396.get (k := 0) rfl) rfl rfl hHG398) ?_
                  refine AO.p rfl (p_assign rfl) ?_
                  refine AO.nil ?_
                  refine AX.seq ?_
                  obtain ⟨r410, hb411, hd412⟩ := bnd_some hd382
                  refine AX.cut (fun t' H' => ∃ (b409 : Bool), b409 = r410 ∧ St [] H H' [[(i186, AObj.row false ([.int .i64 x169, .slice p174 rs170.length c175]))], oseg p174 (tcells T345), tseg T345] ∧ Am.Sub [(7, .pointer (some ⟨i186, 0, none⟩)), (10, .int .i64 x341), (87, .bool b409)] t') ?_ ?_
                  · skip
                    refine AX.region ?_
                    refine AO.c rfl (s_loadN (vs := [.int .i64 x378, .slice p383 rs379.length c384]) Try.isAgg26 Try.sizeOf26 rfl rfl (row_cells (S399.get (k := 0) rfl))) ?_
                    refine AO.c rfl (s_loadN (vs := [.int .i64 x126, .slice p131 rs127.length c132]) Try.isAgg26 Try.sizeOf26 rfl rfl (row_cells (S399.get (k := 8) rfl))) ?_
                    obtain ⟨b413, h414, hd415⟩ := bnd_some hb411
                    refine AO.c rfl (o_call (vs := [.agg [.int .i64 x378, .slice p383 rs379.length c384].toArray, .agg [.int .i64 x126, .slice p131 rs127.length c132].toArray]) rfl Try.call19 (W_laws_eqSquare fu G398 x378 p383 c384 T387 rs379 t388 (S399.oview (k := 1) rfl B386 (tc_len1 t388 rfl)) (S399.oviewT (k := 2) rfl s389) x126 p131 c132 T135 rs127 t136 (S399.oview (k := 9) rfl B134 (tc_len1 t136 rfl)) (S399.oviewT (k := 10) rfl s137) b413 h414)) ?_
                    refine AO.p rfl (p_not rfl) ?_
                    refine AO.p rfl (p_move rfl) ?_
                    refine AO.cases (d := 83) rfl (fun c417 => ?_) (fun c417 => ?_)
                    · have hd418 := bif_t c417 hd415
                      refine AO.gn rfl rfl rfl ?_
                      refine AO.gn rfl rfl rfl ?_
                      refine AO.gn rfl rfl rfl ?_
                      refine AO.p rfl (p_pickT rfl rfl) ?_
                      refine AO.nil ?_
                      have S419 := S399.front 6 rfl
                      have S420 := S419.front 6 rfl
                      have S421 := S420.front 11 rfl
                      have S422 := S421.keep 3
                      exact ⟨true, (some_inj hd418), S422, Sub.cons' rfl rfl (Sub.cons' rfl rfl (Sub.cons' rfl rfl (Sub.nil _)))⟩
                    · have hd423 := bif_f c417 hd415
                      refine AO.gp rfl rfl rfl (p_move rfl) ?_
                      refine AO.gp rfl rfl rfl (p_move rfl) ?_
                      refine AO.gp rfl rfl rfl (p_neq rfl rfl) ?_
                      refine AO.p rfl (p_pickF rfl rfl) ?_
                      refine AO.nil ?_
                      have S424 := S399.front 6 rfl
                      have S425 := S424.front 6 rfl
                      have S426 := S425.front 11 rfl
                      have S427 := S426.keep 3
                      exact ⟨(!decide (x380 = x128)), (some_inj hd423), S427, Sub.cons' rfl rfl (Sub.cons' rfl rfl (Sub.cons' rfl rfl (Sub.nil _)))⟩
                  · rintro t' G429 ⟨b409, rfl, S428, hsub430⟩
                    refine AX.sub hsub430 ?_
                    refine AX.cond rfl (fun c431 => ?_) (fun c431 => ?_)
                    · have hd432 := bif_t c431 hd412
                      refine AX.seq ?_
                      refine AX.region ?_
                      refine AO.p rfl (p_assign rfl) ?_
                      refine AO.nil ?_
                      refine AX.ret ?_
                      obtain rfl := some_inj hd432
                      exact ⟨.inr rfl, _, res1 rfl (rv_tmp rfl), rfl, (flatB_ok rfl), S428.hold⟩
                    · have hd433 := bif_f c431 hd412
                      refine AX.skip ?_
                      refine AX.seq ?_
                      refine AX.region ?_
                      refine AO.p rfl (p_assign rfl) ?_
                      refine AO.nil ?_
                      refine AX.seq ?_
                      refine AX.region ?_
                      refine AO.c rfl (s_loadN (vs := [.int .i64 x169, .slice p174 rs170.length c175]) Try.isAgg26 Try.sizeOf26 rfl rfl (row_cells (S428.get (k := 0) rfl))) ?_
                      refine AO.p rfl (p_move rfl) ?_
                      obtain ⟨x434, h435, hd436⟩ := bnd_some hd433
                      refine AO.c rfl (o_call (vs := [.agg [.int .i64 x169, .slice p174 rs170.length c175].toArray, .int .i64 1]) rfl Try.call21 (by have h' := W_laws_heldSquare fu G429 x169 p174 c175 T345 rs342 t346 (by rw [show List.length rs342 = rs170.length from (Eq.trans l348 rfl)]; exact (S428.oview (k := 1) rfl B177 (tc_len1 t346 (Eq.trans l348 rfl)))) (S428.oviewT (k := 2) rfl s347) 1 x434 h435; rw [show List.length rs342 = rs170.length from (Eq.trans l348 rfl)] at h'; exact h')) ?_
                      refine AO.p rfl (p_assign rfl) ?_
                      refine AO.nil ?_
                      refine AX.seq ?_
                      refine AX.seq ?_
                      refine AX.region ?_
                      refine AO.p rfl (p_move rfl) ?_
                      refine AO.p rfl (p_lss rfl rfl) ?_
                      refine AO.nil ?_
                      refine AX.cond rfl (fun c438 => ?_) (fun c438 => ?_)
                      · have hd439 := bif_t c438 hd436
                        refine AX.seq ?_
                        refine AX.region ?_
                        refine AO.p rfl (p_assign rfl) ?_
                        refine AO.nil ?_
                        refine AX.ret ?_
                        obtain rfl := some_inj hd439
                        exact ⟨.inr rfl, _, res1 rfl (rv_tmp rfl), rfl, (flatB_ok rfl), S428.hold⟩
                      · have hd440 := bif_f c438 hd436
                        refine AX.skip ?_
                        refine AX.seq ?_
                        refine AX.seq ?_
                        refine AX.region ?_
                        refine AO.p rfl (p_move rfl) ?_
                        refine AO.p rfl (p_move rfl) ?_
                        refine AO.p rfl (p_neq rfl rfl) ?_
                        refine AO.nil ?_
                        refine AX.cond rfl (fun c441 => ?_) (fun c441 => ?_)
                        · have hd442 := bif_t c441 hd440
                          refine AX.seq ?_
                          refine AX.region ?_
                          refine AO.p rfl (p_assign rfl) ?_
                          refine AO.nil ?_
                          refine AX.ret ?_
                          obtain rfl := some_inj hd442
                          exact ⟨.inr rfl, _, res1 rfl (rv_tmp rfl), rfl, (flatB_ok rfl), S428.hold⟩
                        · have hd443 := bif_f c441 hd440
                          refine AX.skip ?_
                          refine AX.seq ?_
                          refine AX.region ?_
                          refine AO.p rfl (p_assign rfl) ?_
                          refine AO.nil ?_
                          refine AX.ret ?_
                          obtain rfl := some_inj hd443
                          exact ⟨.inr rfl, _, res1 rfl (rv_tmp rfl), rfl, (flatB_ok rfl), S428.hold⟩

set_option maxHeartbeats 4000000 in
theorem W_laws_FnExactRowsOf (fu : Nat) (H : AHeap) (a0_0 : Int) (p_a0_1 : Option Addr) (c_a0_1 : Nat) (T_a0_1 : Tb) (a0_1 : List (List Int)) (t_a0_1 : trows T_a0_1 = a0_1) (v_a0_1 : Vw H p_a0_1 a0_1.length c_a0_1 (tcells T_a0_1)) (w_a0_1 : TVw H T_a0_1) (r0 : Bool) (hd : D_laws_FnExactRowsOf fu a0_0 a0_1 = some r0) : ACall Try.prog 9 [.agg [.int .i64 a0_0, .slice p_a0_1 a0_1.length c_a0_1].toArray] H (.bool r0) H := by
  refine ACall.bodyP (N := 96) [(0, .agg [.int .i64 a0_0, .slice p_a0_1 a0_1.length c_a0_1].toArray)] Try.func9 rfl rfl rfl rfl ?_
  unfold D_laws_FnExactRowsOf at hd
  have S0 : St [] H H [] := St.nil H
  refine AX.seq ?_
  refine AX.region ?_
  obtain ⟨G100, i101, hii101, hHG100, S102⟩ := S0.new (AObj.row false ([.int .i64 a0_0, .slice p_a0_1 a0_1.length c_a0_1]))
  refine AO.c rfl (s_box (i := i101) (cs := [.int .i64 a0_0, .slice p_a0_1 a0_1.length c_a0_1]) rfl hii101 rfl hHG100) ?_
  refine AO.p rfl (p_assign rfl) ?_
  refine AO.nil ?_
  refine AX.seq ?_
  refine AX.region ?_
  refine AO.p rfl (p_assign rfl) ?_
  refine AO.nil ?_
  refine AX.seq ?_
  refine AX.region ?_
  refine AO.c rfl (s_loadN (vs := [.int .i64 a0_0, .slice p_a0_1 a0_1.length c_a0_1]) Try.isAgg24 Try.sizeOf24 rfl rfl (row_cells (S102.get (k := 0) rfl))) ?_
  refine AO.p rfl (p_move rfl) ?_
  obtain ⟨x104, h105, hd106⟩ := bnd_some hd
  refine AO.c rfl (o_call (vs := [.agg [.int .i64 a0_0, .slice p_a0_1 a0_1.length c_a0_1].toArray, .int .i64 1048576]) rfl Try.call15 (W_laws_szSquare fu G100 a0_0 p_a0_1 c_a0_1 T_a0_1 a0_1 t_a0_1 (S102.view v_a0_1) (S102.tview w_a0_1) 1048576 x104 h105)) ?_
  refine AO.p rfl (p_assign rfl) ?_
  refine AO.nil ?_
  refine AX.seq ?_
  refine AX.seq ?_
  refine AX.region ?_
  refine AO.p rfl (p_move rfl) ?_
  refine AO.p rfl (p_lss rfl rfl) ?_
  refine AO.nil ?_
  refine AX.cond rfl (fun c108 => ?_) (fun c108 => ?_)
  · have hd109 := bif_t c108 hd106
    refine AX.seq ?_
    refine AX.region ?_
    refine AO.p rfl (p_assign rfl) ?_
    refine AO.nil ?_
    refine AX.ret ?_
    obtain rfl := some_inj hd109
    exact ⟨.inr rfl, _, res1 rfl (rv_tmp rfl), rfl, (flatB_ok rfl), S102.hold⟩
  · have hd110 := bif_f c108 hd106
    refine AX.skip ?_
    refine AX.seq ?_
    refine AX.region ?_
    refine AO.c rfl (s_loadN (vs := [.int .i64 a0_0, .slice p_a0_1 a0_1.length c_a0_1]) Try.isAgg24 Try.sizeOf24 rfl rfl (row_cells (S102.get (k := 0) rfl))) ?_
    obtain ⟨⟨x111, rs112⟩, h113, hd114⟩ := bnd_some hd110
    obtain ⟨_, G123, hc122, p115, c116, T119, rfl, S124, B118, t120, s121⟩ := W_laws_toSquare fu G100 a0_0 p_a0_1 c_a0_1 T_a0_1 a0_1 t_a0_1 (S102.view v_a0_1) (S102.tview w_a0_1) x111 rs112 h113
    have S125 := S102.call S124
    refine AO.c rfl (o_call (vs := [.agg [.int .i64 a0_0, .slice p_a0_1 a0_1.length c_a0_1].toArray]) rfl Try.call17 hc122) ?_
    obtain ⟨⟨x126, rs127, x128⟩, h129, hd130⟩ := bnd_some hd114
    obtain ⟨_, G137, hc136, p131, c132, rfl, S138, B134, a135⟩ := W_spec_RowsOf fu G123 x111 p115 c116 T119 rs112 t120 (S125.oview (k := 0) rfl B118 (tc_len1 t120 rfl)) (S125.oviewT (k := 1) rfl s121) x126 rs127 x128 h129
    have S139 := S125.call S138
    refine AO.c rfl (o_call (vs := [.agg [.int .i64 x111, .slice p115 rs112.length c116].toArray]) rfl Try.call42 hc136) ?_
    refine AO.p rfl (p_move rfl) ?_
    refine AO.p rfl (p_extract rfl rfl) ?_
    refine AO.p rfl (p_extract rfl rfl) ?_
    obtain ⟨G140, i141, hii141, hHG140, S142⟩ := S139.new (AObj.row false ([.int .i64 0, .slice none 0 0]))
    refine AO.c rfl (s_alloc (i := i141) (cs := [.int .i64 0, .slice none 0 0]) Try.zeroValue39 rfl rfl hii141 hHG140) ?_
    obtain ⟨G144, hHG144, S145⟩ := S142.set (k := 0) (i := i141) rfl (AObj.row false ([.int .i64 x126, .slice p131 rs127.length c132]))
    refine AO.s (s_storeAll (vs := [.int .i64 x126, .slice p131 rs127.length c132]) Try.sizeOf39 rfl rfl (ones_list rfl) (S142.get (k := 0) rfl) rfl rfl hHG144) ?_
    refine AO.p rfl (p_assign rfl) ?_
    refine AO.nil ?_
    refine AX.seq ?_
    refine AX.region ?_
    refine AO.c rfl (s_loadN (vs := [.int .i64 a0_0, .slice p_a0_1 a0_1.length c_a0_1]) Try.isAgg24 Try.sizeOf24 rfl rfl (row_cells (S145.get (k := 4) rfl))) ?_
    obtain ⟨⟨x146, rs147⟩, h148, hd149⟩ := bnd_some hd130
    obtain ⟨_, G158, hc157, p150, c151, T154, rfl, S159, B153, t155, s156⟩ := W_laws_toSquare fu G144 a0_0 p_a0_1 c_a0_1 T_a0_1 a0_1 t_a0_1 (S145.view v_a0_1) (S145.tview w_a0_1) x146 rs147 h148
    have S160 := S145.call S159
    refine AO.c rfl (o_call (vs := [.agg [.int .i64 a0_0, .slice p_a0_1 a0_1.length c_a0_1].toArray]) rfl Try.call17 hc157) ?_
    obtain ⟨G161, i162, hii162, hHG161, S163⟩ := S160.new (AObj.row false ([.int .i64 0, .slice none 0 0]))
    refine AO.c rfl (s_alloc (i := i162) (cs := [.int .i64 0, .slice none 0 0]) Try.zeroValue26 rfl rfl hii162 hHG161) ?_
    obtain ⟨G165, hHG165, S166⟩ := S163.set (k := 0) (i := i162) rfl (AObj.row false ([.int .i64 x146, .slice p150 rs147.length c151]))
    refine AO.s (s_storeAll (vs := [.int .i64 x146, .slice p150 rs147.length c151]) Try.sizeOf26 rfl rfl (ones_list rfl) (S163.get (k := 0) rfl) rfl rfl hHG165) ?_
    refine AO.nil ?_
    refine AX.seq ?_
    refine AX.region ?_
    refine AO.c rfl (s_loadN (vs := [.int .i64 x146, .slice p150 rs147.length c151]) Try.isAgg26 Try.sizeOf26 rfl rfl (row_cells (S166.get (k := 0) rfl))) ?_
    obtain ⟨⟨x167, rs168, x169⟩, h170, hd171⟩ := bnd_some hd149
    obtain ⟨_, G178, hc177, p172, c173, rfl, S179, B175, a176⟩ := W_impl_RowsOf fu G165 x146 p150 c151 T154 rs147 t155 (S166.oview (k := 1) rfl B153 (tc_len1 t155 rfl)) (S166.oviewT (k := 2) rfl s156) x167 rs168 x169 h170
    have S180 := S166.call S179
    refine AO.c rfl (o_call (vs := [.agg [.int .i64 x146, .slice p150 rs147.length c151].toArray]) rfl Try.call43 hc177) ?_
    refine AO.p rfl (p_move rfl) ?_
    refine AO.p rfl (p_extract rfl rfl) ?_
    refine AO.p rfl (p_extract rfl rfl) ?_
    obtain ⟨G181, i182, hii182, hHG181, S183⟩ := S180.new (AObj.row false ([.int .i64 0, .slice none 0 0]))
    refine AO.c rfl (s_alloc (i := i182) (cs := [.int .i64 0, .slice none 0 0]) Try.zeroValue39 rfl rfl hii182 hHG181) ?_
    obtain ⟨G185, hHG185, S186⟩ := S183.set (k := 0) (i := i182) rfl (AObj.row false ([.int .i64 x167, .slice p172 rs168.length c173]))
    refine AO.s (s_storeAll (vs := [.int .i64 x167, .slice p172 rs168.length c173]) Try.sizeOf39 rfl rfl (ones_list rfl) (S183.get (k := 0) rfl) rfl rfl hHG185) ?_
    refine AO.p rfl (p_assign rfl) ?_
    refine AO.nil ?_
    refine AX.seq ?_
    obtain ⟨r202, hb203, hd204⟩ := bnd_some hd171
    refine AX.cut (fun t' H' => ∃ (b201 : Bool), b201 = r202 ∧ St [] H H' [[(i101, AObj.row false ([.int .i64 a0_0, .slice p_a0_1 a0_1.length c_a0_1]))], [(i141, AObj.row false ([.int .i64 x126, .slice p131 rs127.length c132]))], oseg p131 (ints rs127.flatten), [(i162, AObj.row false ([.int .i64 x146, .slice p150 rs147.length c151]))], oseg p150 (tcells T154), tseg T154, [(i182, AObj.row false ([.int .i64 x167, .slice p172 rs168.length c173]))], oseg p172 (ints rs168.flatten)] ∧ Am.Sub [(1, .pointer (some ⟨i101, 0, none⟩)), (4, .pointer (some ⟨i141, 0, none⟩)), (5, .int .i64 x128), (6, .pointer (some ⟨i162, 0, none⟩)), (7, .pointer (some ⟨i182, 0, none⟩)), (8, .int .i64 x169), (40, .bool b201)] t') ?_ ?_
    · skip
      refine AX.region ?_
      refine AO.c rfl (s_loadN (vs := [.int .i64 x167, .slice p172 rs168.length c173]) Try.isAgg39 Try.sizeOf39 rfl rfl (row_cells (S186.get (k := 0) rfl))) ?_
      refine AO.c rfl (s_loadN (vs := [.int .i64 x126, .slice p131 rs127.length c132]) Try.isAgg39 Try.sizeOf39 rfl rfl (row_cells (S186.get (k := 5) rfl))) ?_
      obtain ⟨b205, h206, hd207⟩ := bnd_some hb203
      refine AO.c rfl (o_call (vs := [.agg [.int .i64 x167, .slice p172 rs168.length c173].toArray, .agg [.int .i64 x126, .slice p131 rs127.length c132].toArray]) rfl Try.call26 (W_laws_eqSchedule fu G185 x167 p172 c173 rs168 a176 (S186.oview (k := 1) rfl B175 (flat_len1 a176 rfl)) x126 p131 c132 rs127 a135 (S186.oview (k := 6) rfl B134 (flat_len1 a135 rfl)) b205 h206)) ?_
      refine AO.p rfl (p_not rfl) ?_
      refine AO.p rfl (p_move rfl) ?_
      refine AO.cases (d := 36) rfl (fun c209 => ?_) (fun c209 => ?_)
      · have hd210 := bif_t c209 hd207
        refine AO.gn rfl rfl rfl ?_
        refine AO.gn rfl rfl rfl ?_
        refine AO.gn rfl rfl rfl ?_
        refine AO.p rfl (p_pickT rfl rfl) ?_
        refine AO.nil ?_
        have S211 := S186.front 1 rfl
        have S212 := S211.front 1 rfl
        have S213 := S212.front 4 rfl
        have S214 := S213.front 4 rfl
        have S215 := S214.front 4 rfl
        have S216 := S215.front 6 rfl
        have S217 := S216.front 6 rfl
        have S218 := S217.front 9 rfl
        have S219 := S218.keep 8
        exact ⟨true, (some_inj hd210), S219, Sub.cons' rfl rfl (Sub.cons' rfl rfl (Sub.cons' rfl rfl (Sub.cons' rfl rfl (Sub.cons' rfl rfl (Sub.cons' rfl rfl (Sub.cons' rfl rfl (Sub.nil _)))))))⟩
      · have hd220 := bif_f c209 hd207
        refine AO.gp rfl rfl rfl (p_move rfl) ?_
        refine AO.gp rfl rfl rfl (p_move rfl) ?_
        refine AO.gp rfl rfl rfl (p_neq rfl rfl) ?_
        refine AO.p rfl (p_pickF rfl rfl) ?_
        refine AO.nil ?_
        have S221 := S186.front 1 rfl
        have S222 := S221.front 1 rfl
        have S223 := S222.front 4 rfl
        have S224 := S223.front 4 rfl
        have S225 := S224.front 4 rfl
        have S226 := S225.front 6 rfl
        have S227 := S226.front 6 rfl
        have S228 := S227.front 9 rfl
        have S229 := S228.keep 8
        exact ⟨(!decide (x169 = x128)), (some_inj hd220), S229, Sub.cons' rfl rfl (Sub.cons' rfl rfl (Sub.cons' rfl rfl (Sub.cons' rfl rfl (Sub.cons' rfl rfl (Sub.cons' rfl rfl (Sub.cons' rfl rfl (Sub.nil _)))))))⟩
    · rintro t' G231 ⟨b201, rfl, S230, hsub232⟩
      refine AX.sub hsub232 ?_
      refine AX.cond rfl (fun c233 => ?_) (fun c233 => ?_)
      · have hd234 := bif_t c233 hd204
        refine AX.seq ?_
        refine AX.region ?_
        refine AO.p rfl (p_assign rfl) ?_
        refine AO.nil ?_
        refine AX.ret ?_
        obtain rfl := some_inj hd234
        exact ⟨.inr rfl, _, res1 rfl (rv_tmp rfl), rfl, (flatB_ok rfl), S230.hold⟩
      · have hd235 := bif_f c233 hd204
        refine AX.skip ?_
        refine AX.seq ?_
        refine AX.seq ?_
        refine DR.startS [false, false, true, true, false] mix (by kernel_rfl) (fun hst => ?_)
        refine DR.r rfl rfl (r_loadN (vs := [.int .i64 x146, .slice p150 rs147.length c151]) rfl Try.isAgg26 Try.sizeOf26 rfl) (many_row (row_cells (S230.get (k := 3) rfl)) (bel_cons (.of_flat0 rfl) (bel_cons (S230.oin (k := 4) rfl B153).bel bel_nil))) ?_
        refine DR.r rfl rfl (r_loadN (vs := [.int .i64 a0_0, .slice p_a0_1 a0_1.length c_a0_1]) rfl Try.isAgg24 Try.sizeOf24 rfl) (many_row (row_cells (S230.get (k := 0) rfl)) (bel_cons (.of_flat0 rfl) (bel_cons (S230.view v_a0_1).inn.bel bel_nil))) ?_
        obtain ⟨⟨x236, rs237⟩, h238, hd239⟩ := bnd_some hd235
        obtain ⟨_, G248, hc247, p240, c241, T244, rfl, S249, B243, t245, s246⟩ := W_laws_toSquare fu G231 a0_0 p_a0_1 c_a0_1 T_a0_1 a0_1 t_a0_1 (S230.view v_a0_1) (S230.tview w_a0_1) x236 rs237 h238
        have S250 := S230.call S249
        refine DR.w rfl rfl (o_call (vs := [.agg [.int .i64 a0_0, .slice p_a0_1 a0_1.length c_a0_1].toArray]) rfl Try.call17 hc247) (S249.len) ?_
        obtain ⟨b251, h252, hd253⟩ := bnd_some hd239
        refine DR.w rfl rfl (o_call (vs := [.agg [.int .i64 x146, .slice p150 rs147.length c151].toArray, .agg [.int .i64 x236, .slice p240 rs237.length c241].toArray]) rfl Try.call19 (W_laws_eqSquare fu G248 x146 p150 c151 T154 rs147 t155 (S250.oview (k := 6) rfl B153 (tc_len1 t155 rfl)) (S250.oviewT (k := 7) rfl s156) x236 p240 c241 T244 rs237 t245 (S250.oview (k := 0) rfl B243 (tc_len1 t245 rfl)) (S250.oviewT (k := 1) rfl s246) b251 h252)) (Nat.le_refl _) ?_
        refine DR.p rfl rfl (p_not rfl) ?_
        refine DR.nil 5 [(0, 2)] hst (by kernel_rfl) ⟨(rdN (fun h => S249.hold _ h)), trivial⟩ ?_
        refine AX.cond rfl (fun c255 => ?_) (fun c255 => ?_)
        · have hd256 := bif_t c255 hd253
          refine AX.seq ?_
          refine AX.region ?_
          refine AO.p rfl (p_assign rfl) ?_
          refine AO.nil ?_
          refine AX.ret ?_
          obtain rfl := some_inj hd256
          exact ⟨.inr rfl, _, res1 rfl (rv_tmp rfl), rfl, (flatB_ok rfl), S250.hold⟩
        · have hd257 := bif_f c255 hd253
          refine AX.skip ?_
          refine AX.seq ?_
          refine AX.region ?_
          refine AO.p rfl (p_assign rfl) ?_
          refine AO.nil ?_
          refine AX.seq ?_
          refine AX.region ?_
          refine AO.c rfl (s_loadN (vs := [.int .i64 x146, .slice p150 rs147.length c151]) Try.isAgg26 Try.sizeOf26 rfl rfl (row_cells (S250.get (k := 5) rfl))) ?_
          refine AO.p rfl (p_move rfl) ?_
          have S258 := S250.front 7 rfl
          have S259 := S258.front 7 rfl
          obtain ⟨⟨x260, rs261⟩, h262, hd263⟩ := bnd_some hd257
          obtain ⟨_, G269, hc268, T264, rfl, S270, t265, s266, l267⟩ := W_laws_markSquare fu G248 x146 p150 c151 T154 rs147 t155 B153 s156 1 ((S259).join2.onodup (k := 0) rfl) ((S259).join2.omem (k := 0) rfl) x260 rs261 h262
          have S271 := St.callM (A := [oseg p150 (tcells T154), tseg T154]) S259 S270 (by simp)
          refine AO.c rfl (o_call (vs := [.agg [.int .i64 x146, .slice p150 rs147.length c151].toArray, .int .i64 1]) rfl Try.call20 hc268) ?_
          refine AO.p rfl (p_assign rfl) ?_
          refine AO.nil ?_
          refine AX.seq ?_
          obtain ⟨r288, hb289, hd290⟩ := bnd_some hd263
          refine AX.cut (fun t' H' => ∃ (b287 : Bool), b287 = r288 ∧ St [] H H' [[(i101, AObj.row false ([.int .i64 a0_0, .slice p_a0_1 a0_1.length c_a0_1]))], [(i141, AObj.row false ([.int .i64 x126, .slice p131 rs127.length c132]))], oseg p131 (ints rs127.flatten), [(i182, AObj.row false ([.int .i64 x167, .slice p172 rs168.length c173]))], oseg p172 (ints rs168.flatten)] ∧ Am.Sub [(1, .pointer (some ⟨i101, 0, none⟩)), (4, .pointer (some ⟨i141, 0, none⟩)), (5, .int .i64 x128), (7, .pointer (some ⟨i182, 0, none⟩)), (61, .bool b287)] t') ?_ ?_
          · skip
            refine AX.region ?_
            refine AO.p rfl (p_move rfl) ?_
            refine AO.p rfl (p_lss rfl rfl) ?_
            refine AO.p rfl (p_move rfl) ?_
            refine AO.cases (d := 51) rfl (fun c291 => ?_) (fun c291 => ?_)
            · have hd292 := bif_t c291 hb289
              refine AO.gn rfl rfl rfl ?_
              refine AO.gn rfl rfl rfl ?_
              refine AO.gn rfl rfl rfl ?_
              refine AO.gn rfl rfl rfl ?_
              refine AO.p rfl (p_pickT rfl rfl) ?_
              refine AO.p rfl (p_move rfl) ?_
              refine AO.gn rfl rfl rfl ?_
              refine AO.gn rfl rfl rfl ?_
              refine AO.gn rfl rfl rfl ?_
              refine AO.p rfl (p_pickT rfl rfl) ?_
              refine AO.nil ?_
              have S293 := S271.front 9 rfl
              have S294 := S293.front 9 rfl
              have S295 := S294.front 8 rfl
              have S296 := S295.front 8 rfl
              have S297 := S296.front 8 rfl
              have S298 := S297.keep 5
              exact ⟨true, (some_inj hd292), S298, Sub.cons' rfl rfl (Sub.cons' rfl rfl (Sub.cons' rfl rfl (Sub.cons' rfl rfl (Sub.cons' rfl rfl (Sub.nil _)))))⟩
            · have hd299 := bif_f c291 hb289
              refine AO.gc rfl rfl rfl (s_loadN (vs := [.int .i64 x167, .slice p172 rs168.length c173]) Try.isAgg39 Try.sizeOf39 rfl rfl (row_cells (S271.get (k := 8) rfl))) ?_
              refine AO.gc rfl rfl rfl (s_loadN (vs := [.int .i64 x126, .slice p131 rs127.length c132]) Try.isAgg39 Try.sizeOf39 rfl rfl (row_cells (S271.get (k := 5) rfl))) ?_
              obtain ⟨b300, h301, hd302⟩ := bnd_some hd299
              refine AO.gc rfl rfl rfl (o_call (vs := [.agg [.int .i64 x167, .slice p172 rs168.length c173].toArray, .agg [.int .i64 x126, .slice p131 rs127.length c132].toArray]) rfl Try.call26 (W_laws_eqSchedule fu G269 x167 p172 c173 rs168 a176 (S271.oview (k := 9) rfl B175 (flat_len1 a176 rfl)) x126 p131 c132 rs127 a135 (S271.oview (k := 6) rfl B134 (flat_len1 a135 rfl)) b300 h301)) ?_
              refine AO.gp rfl rfl rfl (p_not rfl) ?_
              refine AO.p rfl (p_pickF rfl rfl) ?_
              refine AO.p rfl (p_move rfl) ?_
              refine AO.cases (d := 57) rfl (fun c304 => ?_) (fun c304 => ?_)
              · have hd305 := bif_t c304 hd302
                refine AO.gn rfl rfl rfl ?_
                refine AO.gn rfl rfl rfl ?_
                refine AO.gn rfl rfl rfl ?_
                refine AO.p rfl (p_pickT rfl rfl) ?_
                refine AO.nil ?_
                have S306 := S271.front 9 rfl
                have S307 := S306.front 9 rfl
                have S308 := S307.front 8 rfl
                have S309 := S308.front 8 rfl
                have S310 := S309.front 8 rfl
                have S311 := S310.keep 5
                exact ⟨true, (some_inj hd305), S311, Sub.cons' rfl rfl (Sub.cons' rfl rfl (Sub.cons' rfl rfl (Sub.cons' rfl rfl (Sub.cons' rfl rfl (Sub.nil _)))))⟩
              · have hd312 := bif_f c304 hd302
                refine AO.gp rfl rfl rfl (p_move rfl) ?_
                refine AO.gp rfl rfl rfl (p_move rfl) ?_
                refine AO.gp rfl rfl rfl (p_neq rfl rfl) ?_
                refine AO.p rfl (p_pickF rfl rfl) ?_
                refine AO.nil ?_
                have S313 := S271.front 9 rfl
                have S314 := S313.front 9 rfl
                have S315 := S314.front 8 rfl
                have S316 := S315.front 8 rfl
                have S317 := S316.front 8 rfl
                have S318 := S317.keep 5
                exact ⟨(!decide (x169 = x128)), (some_inj hd312), S318, Sub.cons' rfl rfl (Sub.cons' rfl rfl (Sub.cons' rfl rfl (Sub.cons' rfl rfl (Sub.cons' rfl rfl (Sub.nil _)))))⟩
          · rintro t' G320 ⟨b287, rfl, S319, hsub321⟩
            refine AX.sub hsub321 ?_
            refine AX.cond rfl (fun c322 => ?_) (fun c322 => ?_)
            · have hd323 := bif_t c322 hd290
              refine AX.seq ?_
              refine AX.region ?_
              refine AO.p rfl (p_assign rfl) ?_
              refine AO.nil ?_
              refine AX.ret ?_
              obtain rfl := some_inj hd323
              exact ⟨.inr rfl, _, res1 rfl (rv_tmp rfl), rfl, (flatB_ok rfl), S319.hold⟩
            · have hd324 := bif_f c322 hd290
              refine AX.skip ?_
              refine AX.seq ?_
              refine AX.region ?_
              refine AO.p rfl (p_assign rfl) ?_
              refine AO.nil ?_
              refine AX.seq ?_
              refine AX.region ?_
              refine AO.c rfl (s_loadN (vs := [.int .i64 x167, .slice p172 rs168.length c173]) Try.isAgg39 Try.sizeOf39 rfl rfl (row_cells (S319.get (k := 3) rfl))) ?_
              refine AO.p rfl (p_move rfl) ?_
              have S325 := S319.front 4 rfl
              obtain ⟨⟨x326, rs327⟩, h328, hd329⟩ := bnd_some hd324
              obtain ⟨_, G333, hc332, rfl, S334, l330, a331⟩ := W_laws_markSchedule fu G320 x167 p172 c173 rs168 a176 B175 1 (S325.onodup (k := 0) rfl) (S325.omem (k := 0) rfl) x326 rs327 h328
              have S335 := St.callM (A := [oseg p172 (ints rs168.flatten)]) S325 S334 (by simp)
              refine AO.c rfl (o_call (vs := [.agg [.int .i64 x167, .slice p172 rs168.length c173].toArray, .int .i64 1]) rfl Try.call27 hc332) ?_
              refine AO.p rfl (p_assign rfl) ?_
              refine AO.nil ?_
              refine AX.seq ?_
              refine AX.region ?_
              refine AO.p rfl (p_assign rfl) ?_
              refine AO.nil ?_
              refine AX.seq ?_
              refine AX.region ?_
              refine AO.c rfl (s_loadN (vs := [.int .i64 x167, .slice p172 rs168.length c173]) Try.isAgg39 Try.sizeOf39 rfl rfl (row_cells (S335.get (k := 4) rfl))) ?_
              refine AO.p rfl (p_move rfl) ?_
              obtain ⟨x336, h337, hd338⟩ := bnd_some hd329
              refine AO.c rfl (o_call (vs := [.agg [.int .i64 x167, .slice p172 rs168.length c173].toArray, .int .i64 1]) rfl Try.call28 (by have h' := W_laws_heldSchedule fu G333 x167 p172 c173 rs327 a331 (by rw [show List.length rs327 = rs168.length from l330]; exact (S335.oview (k := 0) rfl B175 (flat_len1 a331 l330))) 1 x336 h337; rw [show List.length rs327 = rs168.length from l330] at h'; exact h')) ?_
              refine AO.p rfl (p_assign rfl) ?_
              refine AO.nil ?_
              refine AX.seq ?_
              refine AX.seq ?_
              refine AX.region ?_
              refine AO.p rfl (p_move rfl) ?_
              refine AO.p rfl (p_lss rfl rfl) ?_
              refine AO.nil ?_
              refine AX.cond rfl (fun c340 => ?_) (fun c340 => ?_)
              · have hd341 := bif_t c340 hd338
                refine AX.seq ?_
                refine AX.region ?_
                refine AO.p rfl (p_assign rfl) ?_
                refine AO.nil ?_
                refine AX.ret ?_
                obtain rfl := some_inj hd341
                exact ⟨.inr rfl, _, res1 rfl (rv_tmp rfl), rfl, (flatB_ok rfl), S335.hold⟩
              · have hd342 := bif_f c340 hd338
                refine AX.skip ?_
                refine AX.seq ?_
                refine AX.seq ?_
                refine AX.region ?_
                refine AO.p rfl (p_move rfl) ?_
                refine AO.p rfl (p_move rfl) ?_
                refine AO.p rfl (p_neq rfl rfl) ?_
                refine AO.nil ?_
                refine AX.cond rfl (fun c343 => ?_) (fun c343 => ?_)
                · have hd344 := bif_t c343 hd342
                  refine AX.seq ?_
                  refine AX.region ?_
                  refine AO.p rfl (p_assign rfl) ?_
                  refine AO.nil ?_
                  refine AX.ret ?_
                  obtain rfl := some_inj hd344
                  exact ⟨.inr rfl, _, res1 rfl (rv_tmp rfl), rfl, (flatB_ok rfl), S335.hold⟩
                · have hd345 := bif_f c343 hd342
                  refine AX.skip ?_
                  refine AX.seq ?_
                  refine AX.region ?_
                  refine AO.c rfl (s_loadN (vs := [.int .i64 a0_0, .slice p_a0_1 a0_1.length c_a0_1]) Try.isAgg24 Try.sizeOf24 rfl rfl (row_cells (S335.get (k := 1) rfl))) ?_
                  obtain ⟨⟨x346, rs347⟩, h348, hd349⟩ := bnd_some hd345
                  obtain ⟨_, G358, hc357, p350, c351, T354, rfl, S359, B353, t355, s356⟩ := W_laws_toSquare fu G333 a0_0 p_a0_1 c_a0_1 T_a0_1 a0_1 t_a0_1 (S335.view v_a0_1) (S335.tview w_a0_1) x346 rs347 h348
                  have S360 := S335.call S359
                  refine AO.c rfl (o_call (vs := [.agg [.int .i64 a0_0, .slice p_a0_1 a0_1.length c_a0_1].toArray]) rfl Try.call17 hc357) ?_
                  obtain ⟨⟨x361, rs362, x363⟩, h364, hd365⟩ := bnd_some hd349
                  obtain ⟨_, G372, hc371, p366, c367, rfl, S373, B369, a370⟩ := W_impl_RowsOf fu G358 x346 p350 c351 T354 rs347 t355 (S360.oview (k := 0) rfl B353 (tc_len1 t355 rfl)) (S360.oviewT (k := 1) rfl s356) x361 rs362 x363 h364
                  have S374 := S360.call S373
                  refine AO.c rfl (o_call (vs := [.agg [.int .i64 x346, .slice p350 rs347.length c351].toArray]) rfl Try.call43 hc371) ?_
                  refine AO.p rfl (p_move rfl) ?_
                  refine AO.p rfl (p_extract rfl rfl) ?_
                  refine AO.p rfl (p_extract rfl rfl) ?_
                  obtain ⟨G375, i376, hii376, hHG375, S377⟩ := S374.new (AObj.row false ([.int .i64 0, .slice none 0 0]))
                  refine AO.c rfl (s_alloc (i := i376) (cs := [.int .i64 0, .slice none 0 0]) Try.zeroValue39 rfl rfl hii376 hHG375) ?_
                  obtain ⟨G379, hHG379, S380⟩ := S377.set (k := 0) (i := i376) rfl (AObj.row false ([.int .i64 x361, .slice p366 rs362.length c367]))
                  refine AO.s (s_storeAll (vs := [.int .i64 x361, .slice p366 rs362.length c367]) Try.sizeOf39 rfl rfl (ones_list rfl) (S377.get (k := 0) rfl) rfl rfl hHG379) ?_
                  refine AO.p rfl (p_assign rfl) ?_
                  refine AO.nil ?_
                  refine AX.seq ?_
                  obtain ⟨r391, hb392, hd393⟩ := bnd_some hd365
                  refine AX.cut (fun t' H' => ∃ (b390 : Bool), b390 = r391 ∧ St [] H H' [[(i182, AObj.row false ([.int .i64 x167, .slice p172 rs168.length c173]))], oseg p172 (ints rs327.flatten)] ∧ Am.Sub [(7, .pointer (some ⟨i182, 0, none⟩)), (10, .int .i64 x326), (87, .bool b390)] t') ?_ ?_
                  · skip
                    refine AX.region ?_
                    refine AO.c rfl (s_loadN (vs := [.int .i64 x361, .slice p366 rs362.length c367]) Try.isAgg39 Try.sizeOf39 rfl rfl (row_cells (S380.get (k := 0) rfl))) ?_
                    refine AO.c rfl (s_loadN (vs := [.int .i64 x126, .slice p131 rs127.length c132]) Try.isAgg39 Try.sizeOf39 rfl rfl (row_cells (S380.get (k := 6) rfl))) ?_
                    obtain ⟨b394, h395, hd396⟩ := bnd_some hb392
                    refine AO.c rfl (o_call (vs := [.agg [.int .i64 x361, .slice p366 rs362.length c367].toArray, .agg [.int .i64 x126, .slice p131 rs127.length c132].toArray]) rfl Try.call26 (W_laws_eqSchedule fu G379 x361 p366 c367 rs362 a370 (S380.oview (k := 1) rfl B369 (flat_len1 a370 rfl)) x126 p131 c132 rs127 a135 (S380.oview (k := 7) rfl B134 (flat_len1 a135 rfl)) b394 h395)) ?_
                    refine AO.p rfl (p_not rfl) ?_
                    refine AO.p rfl (p_move rfl) ?_
                    refine AO.cases (d := 83) rfl (fun c398 => ?_) (fun c398 => ?_)
                    · have hd399 := bif_t c398 hd396
                      refine AO.gn rfl rfl rfl ?_
                      refine AO.gn rfl rfl rfl ?_
                      refine AO.gn rfl rfl rfl ?_
                      refine AO.p rfl (p_pickT rfl rfl) ?_
                      refine AO.nil ?_
                      have S400 := S380.front 4 rfl
                      have S401 := S400.front 8 rfl
                      have S402 := S401.keep 2
                      exact ⟨true, (some_inj hd399), S402, Sub.cons' rfl rfl (Sub.cons' rfl rfl (Sub.cons' rfl rfl (Sub.nil _)))⟩
                    · have hd403 := bif_f c398 hd396
                      refine AO.gp rfl rfl rfl (p_move rfl) ?_
                      refine AO.gp rfl rfl rfl (p_move rfl) ?_
                      refine AO.gp rfl rfl rfl (p_neq rfl rfl) ?_
                      refine AO.p rfl (p_pickF rfl rfl) ?_
                      refine AO.nil ?_
                      have S404 := S380.front 4 rfl
                      have S405 := S404.front 8 rfl
                      have S406 := S405.keep 2
                      exact ⟨(!decide (x363 = x128)), (some_inj hd403), S406, Sub.cons' rfl rfl (Sub.cons' rfl rfl (Sub.cons' rfl rfl (Sub.nil _)))⟩
                  · rintro t' G408 ⟨b390, rfl, S407, hsub409⟩
                    refine AX.sub hsub409 ?_
                    refine AX.cond rfl (fun c410 => ?_) (fun c410 => ?_)
                    · have hd411 := bif_t c410 hd393
                      refine AX.seq ?_
                      refine AX.region ?_
                      refine AO.p rfl (p_assign rfl) ?_
                      refine AO.nil ?_
                      refine AX.ret ?_
                      obtain rfl := some_inj hd411
                      exact ⟨.inr rfl, _, res1 rfl (rv_tmp rfl), rfl, (flatB_ok rfl), S407.hold⟩
                    · have hd412 := bif_f c410 hd393
                      refine AX.skip ?_
                      refine AX.seq ?_
                      refine AX.region ?_
                      refine AO.p rfl (p_assign rfl) ?_
                      refine AO.nil ?_
                      refine AX.seq ?_
                      refine AX.region ?_
                      refine AO.c rfl (s_loadN (vs := [.int .i64 x167, .slice p172 rs168.length c173]) Try.isAgg39 Try.sizeOf39 rfl rfl (row_cells (S407.get (k := 0) rfl))) ?_
                      refine AO.p rfl (p_move rfl) ?_
                      obtain ⟨x413, h414, hd415⟩ := bnd_some hd412
                      refine AO.c rfl (o_call (vs := [.agg [.int .i64 x167, .slice p172 rs168.length c173].toArray, .int .i64 1]) rfl Try.call28 (by have h' := W_laws_heldSchedule fu G408 x167 p172 c173 rs327 a331 (by rw [show List.length rs327 = rs168.length from l330]; exact (S407.oview (k := 1) rfl B175 (flat_len1 a331 l330))) 1 x413 h414; rw [show List.length rs327 = rs168.length from l330] at h'; exact h')) ?_
                      refine AO.p rfl (p_assign rfl) ?_
                      refine AO.nil ?_
                      refine AX.seq ?_
                      refine AX.seq ?_
                      refine AX.region ?_
                      refine AO.p rfl (p_move rfl) ?_
                      refine AO.p rfl (p_lss rfl rfl) ?_
                      refine AO.nil ?_
                      refine AX.cond rfl (fun c417 => ?_) (fun c417 => ?_)
                      · have hd418 := bif_t c417 hd415
                        refine AX.seq ?_
                        refine AX.region ?_
                        refine AO.p rfl (p_assign rfl) ?_
                        refine AO.nil ?_
                        refine AX.ret ?_
                        obtain rfl := some_inj hd418
                        exact ⟨.inr rfl, _, res1 rfl (rv_tmp rfl), rfl, (flatB_ok rfl), S407.hold⟩
                      · have hd419 := bif_f c417 hd415
                        refine AX.skip ?_
                        refine AX.seq ?_
                        refine AX.seq ?_
                        refine AX.region ?_
                        refine AO.p rfl (p_move rfl) ?_
                        refine AO.p rfl (p_move rfl) ?_
                        refine AO.p rfl (p_neq rfl rfl) ?_
                        refine AO.nil ?_
                        refine AX.cond rfl (fun c420 => ?_) (fun c420 => ?_)
                        · have hd421 := bif_t c420 hd419
                          refine AX.seq ?_
                          refine AX.region ?_
                          refine AO.p rfl (p_assign rfl) ?_
                          refine AO.nil ?_
                          refine AX.ret ?_
                          obtain rfl := some_inj hd421
                          exact ⟨.inr rfl, _, res1 rfl (rv_tmp rfl), rfl, (flatB_ok rfl), S407.hold⟩
                        · have hd422 := bif_f c420 hd419
                          refine AX.skip ?_
                          refine AX.seq ?_
                          refine AX.region ?_
                          refine AO.p rfl (p_assign rfl) ?_
                          refine AO.nil ?_
                          refine AX.ret ?_
                          obtain rfl := some_inj hd422
                          exact ⟨.inr rfl, _, res1 rfl (rv_tmp rfl), rfl, (flatB_ok rfl), S407.hold⟩

set_option maxHeartbeats 4000000 in
theorem W_laws_FnExactColumnsOf (fu : Nat) (H : AHeap) (a0_0 : Int) (p_a0_1 : Option Addr) (c_a0_1 : Nat) (T_a0_1 : Tb) (a0_1 : List (List Int)) (t_a0_1 : trows T_a0_1 = a0_1) (v_a0_1 : Vw H p_a0_1 a0_1.length c_a0_1 (tcells T_a0_1)) (w_a0_1 : TVw H T_a0_1) (r0 : Bool) (hd : D_laws_FnExactColumnsOf fu a0_0 a0_1 = some r0) : ACall Try.prog 12 [.agg [.int .i64 a0_0, .slice p_a0_1 a0_1.length c_a0_1].toArray] H (.bool r0) H := by
  refine ACall.bodyP (N := 96) [(0, .agg [.int .i64 a0_0, .slice p_a0_1 a0_1.length c_a0_1].toArray)] Try.func12 rfl rfl rfl rfl ?_
  unfold D_laws_FnExactColumnsOf at hd
  have S0 : St [] H H [] := St.nil H
  refine AX.seq ?_
  refine AX.region ?_
  obtain ⟨G100, i101, hii101, hHG100, S102⟩ := S0.new (AObj.row false ([.int .i64 a0_0, .slice p_a0_1 a0_1.length c_a0_1]))
  refine AO.c rfl (s_box (i := i101) (cs := [.int .i64 a0_0, .slice p_a0_1 a0_1.length c_a0_1]) rfl hii101 rfl hHG100) ?_
  refine AO.p rfl (p_assign rfl) ?_
  refine AO.nil ?_
  refine AX.seq ?_
  refine AX.region ?_
  refine AO.p rfl (p_assign rfl) ?_
  refine AO.nil ?_
  refine AX.seq ?_
  refine AX.region ?_
  refine AO.c rfl (s_loadN (vs := [.int .i64 a0_0, .slice p_a0_1 a0_1.length c_a0_1]) Try.isAgg24 Try.sizeOf24 rfl rfl (row_cells (S102.get (k := 0) rfl))) ?_
  refine AO.p rfl (p_move rfl) ?_
  obtain ⟨x104, h105, hd106⟩ := bnd_some hd
  refine AO.c rfl (o_call (vs := [.agg [.int .i64 a0_0, .slice p_a0_1 a0_1.length c_a0_1].toArray, .int .i64 1048576]) rfl Try.call15 (W_laws_szSquare fu G100 a0_0 p_a0_1 c_a0_1 T_a0_1 a0_1 t_a0_1 (S102.view v_a0_1) (S102.tview w_a0_1) 1048576 x104 h105)) ?_
  refine AO.p rfl (p_assign rfl) ?_
  refine AO.nil ?_
  refine AX.seq ?_
  refine AX.seq ?_
  refine AX.region ?_
  refine AO.p rfl (p_move rfl) ?_
  refine AO.p rfl (p_lss rfl rfl) ?_
  refine AO.nil ?_
  refine AX.cond rfl (fun c108 => ?_) (fun c108 => ?_)
  · have hd109 := bif_t c108 hd106
    refine AX.seq ?_
    refine AX.region ?_
    refine AO.p rfl (p_assign rfl) ?_
    refine AO.nil ?_
    refine AX.ret ?_
    obtain rfl := some_inj hd109
    exact ⟨.inr rfl, _, res1 rfl (rv_tmp rfl), rfl, (flatB_ok rfl), S102.hold⟩
  · have hd110 := bif_f c108 hd106
    refine AX.skip ?_
    refine AX.seq ?_
    refine AX.region ?_
    refine AO.c rfl (s_loadN (vs := [.int .i64 a0_0, .slice p_a0_1 a0_1.length c_a0_1]) Try.isAgg24 Try.sizeOf24 rfl rfl (row_cells (S102.get (k := 0) rfl))) ?_
    obtain ⟨⟨x111, rs112⟩, h113, hd114⟩ := bnd_some hd110
    obtain ⟨_, G123, hc122, p115, c116, T119, rfl, S124, B118, t120, s121⟩ := W_laws_toSquare fu G100 a0_0 p_a0_1 c_a0_1 T_a0_1 a0_1 t_a0_1 (S102.view v_a0_1) (S102.tview w_a0_1) x111 rs112 h113
    have S125 := S102.call S124
    refine AO.c rfl (o_call (vs := [.agg [.int .i64 a0_0, .slice p_a0_1 a0_1.length c_a0_1].toArray]) rfl Try.call17 hc122) ?_
    obtain ⟨⟨x126, rs127, x128⟩, h129, hd130⟩ := bnd_some hd114
    obtain ⟨_, G137, hc136, p131, c132, rfl, S138, B134, a135⟩ := W_spec_ColumnsOf fu G123 x111 p115 c116 T119 rs112 t120 (S125.oview (k := 0) rfl B118 (tc_len1 t120 rfl)) (S125.oviewT (k := 1) rfl s121) x126 rs127 x128 h129
    have S139 := S125.call S138
    refine AO.c rfl (o_call (vs := [.agg [.int .i64 x111, .slice p115 rs112.length c116].toArray]) rfl Try.call48 hc136) ?_
    refine AO.p rfl (p_move rfl) ?_
    refine AO.p rfl (p_extract rfl rfl) ?_
    refine AO.p rfl (p_extract rfl rfl) ?_
    obtain ⟨G140, i141, hii141, hHG140, S142⟩ := S139.new (AObj.row false ([.int .i64 0, .slice none 0 0]))
    refine AO.c rfl (s_alloc (i := i141) (cs := [.int .i64 0, .slice none 0 0]) Try.zeroValue39 rfl rfl hii141 hHG140) ?_
    obtain ⟨G144, hHG144, S145⟩ := S142.set (k := 0) (i := i141) rfl (AObj.row false ([.int .i64 x126, .slice p131 rs127.length c132]))
    refine AO.s (s_storeAll (vs := [.int .i64 x126, .slice p131 rs127.length c132]) Try.sizeOf39 rfl rfl (ones_list rfl) (S142.get (k := 0) rfl) rfl rfl hHG144) ?_
    refine AO.p rfl (p_assign rfl) ?_
    refine AO.nil ?_
    refine AX.seq ?_
    refine AX.region ?_
    refine AO.c rfl (s_loadN (vs := [.int .i64 a0_0, .slice p_a0_1 a0_1.length c_a0_1]) Try.isAgg24 Try.sizeOf24 rfl rfl (row_cells (S145.get (k := 4) rfl))) ?_
    obtain ⟨⟨x146, rs147⟩, h148, hd149⟩ := bnd_some hd130
    obtain ⟨_, G158, hc157, p150, c151, T154, rfl, S159, B153, t155, s156⟩ := W_laws_toSquare fu G144 a0_0 p_a0_1 c_a0_1 T_a0_1 a0_1 t_a0_1 (S145.view v_a0_1) (S145.tview w_a0_1) x146 rs147 h148
    have S160 := S145.call S159
    refine AO.c rfl (o_call (vs := [.agg [.int .i64 a0_0, .slice p_a0_1 a0_1.length c_a0_1].toArray]) rfl Try.call17 hc157) ?_
    obtain ⟨G161, i162, hii162, hHG161, S163⟩ := S160.new (AObj.row false ([.int .i64 0, .slice none 0 0]))
    refine AO.c rfl (s_alloc (i := i162) (cs := [.int .i64 0, .slice none 0 0]) Try.zeroValue26 rfl rfl hii162 hHG161) ?_
    obtain ⟨G165, hHG165, S166⟩ := S163.set (k := 0) (i := i162) rfl (AObj.row false ([.int .i64 x146, .slice p150 rs147.length c151]))
    refine AO.s (s_storeAll (vs := [.int .i64 x146, .slice p150 rs147.length c151]) Try.sizeOf26 rfl rfl (ones_list rfl) (S163.get (k := 0) rfl) rfl rfl hHG165) ?_
    refine AO.nil ?_
    refine AX.seq ?_
    refine AX.region ?_
    refine AO.c rfl (s_loadN (vs := [.int .i64 x146, .slice p150 rs147.length c151]) Try.isAgg26 Try.sizeOf26 rfl rfl (row_cells (S166.get (k := 0) rfl))) ?_
    obtain ⟨⟨x167, rs168, x169⟩, h170, hd171⟩ := bnd_some hd149
    obtain ⟨_, G178, hc177, p172, c173, rfl, S179, B175, a176⟩ := W_impl_ColumnsOf fu G165 x146 p150 c151 T154 rs147 t155 (S166.oview (k := 1) rfl B153 (tc_len1 t155 rfl)) (S166.oviewT (k := 2) rfl s156) x167 rs168 x169 h170
    have S180 := S166.call S179
    refine AO.c rfl (o_call (vs := [.agg [.int .i64 x146, .slice p150 rs147.length c151].toArray]) rfl Try.call49 hc177) ?_
    refine AO.p rfl (p_move rfl) ?_
    refine AO.p rfl (p_extract rfl rfl) ?_
    refine AO.p rfl (p_extract rfl rfl) ?_
    obtain ⟨G181, i182, hii182, hHG181, S183⟩ := S180.new (AObj.row false ([.int .i64 0, .slice none 0 0]))
    refine AO.c rfl (s_alloc (i := i182) (cs := [.int .i64 0, .slice none 0 0]) Try.zeroValue39 rfl rfl hii182 hHG181) ?_
    obtain ⟨G185, hHG185, S186⟩ := S183.set (k := 0) (i := i182) rfl (AObj.row false ([.int .i64 x167, .slice p172 rs168.length c173]))
    refine AO.s (s_storeAll (vs := [.int .i64 x167, .slice p172 rs168.length c173]) Try.sizeOf39 rfl rfl (ones_list rfl) (S183.get (k := 0) rfl) rfl rfl hHG185) ?_
    refine AO.p rfl (p_assign rfl) ?_
    refine AO.nil ?_
    refine AX.seq ?_
    obtain ⟨r202, hb203, hd204⟩ := bnd_some hd171
    refine AX.cut (fun t' H' => ∃ (b201 : Bool), b201 = r202 ∧ St [] H H' [[(i101, AObj.row false ([.int .i64 a0_0, .slice p_a0_1 a0_1.length c_a0_1]))], [(i141, AObj.row false ([.int .i64 x126, .slice p131 rs127.length c132]))], oseg p131 (ints rs127.flatten), [(i162, AObj.row false ([.int .i64 x146, .slice p150 rs147.length c151]))], oseg p150 (tcells T154), tseg T154, [(i182, AObj.row false ([.int .i64 x167, .slice p172 rs168.length c173]))], oseg p172 (ints rs168.flatten)] ∧ Am.Sub [(1, .pointer (some ⟨i101, 0, none⟩)), (4, .pointer (some ⟨i141, 0, none⟩)), (5, .int .i64 x128), (6, .pointer (some ⟨i162, 0, none⟩)), (7, .pointer (some ⟨i182, 0, none⟩)), (8, .int .i64 x169), (40, .bool b201)] t') ?_ ?_
    · skip
      refine AX.region ?_
      refine AO.c rfl (s_loadN (vs := [.int .i64 x167, .slice p172 rs168.length c173]) Try.isAgg39 Try.sizeOf39 rfl rfl (row_cells (S186.get (k := 0) rfl))) ?_
      refine AO.c rfl (s_loadN (vs := [.int .i64 x126, .slice p131 rs127.length c132]) Try.isAgg39 Try.sizeOf39 rfl rfl (row_cells (S186.get (k := 5) rfl))) ?_
      obtain ⟨b205, h206, hd207⟩ := bnd_some hb203
      refine AO.c rfl (o_call (vs := [.agg [.int .i64 x167, .slice p172 rs168.length c173].toArray, .agg [.int .i64 x126, .slice p131 rs127.length c132].toArray]) rfl Try.call26 (W_laws_eqSchedule fu G185 x167 p172 c173 rs168 a176 (S186.oview (k := 1) rfl B175 (flat_len1 a176 rfl)) x126 p131 c132 rs127 a135 (S186.oview (k := 6) rfl B134 (flat_len1 a135 rfl)) b205 h206)) ?_
      refine AO.p rfl (p_not rfl) ?_
      refine AO.p rfl (p_move rfl) ?_
      refine AO.cases (d := 36) rfl (fun c209 => ?_) (fun c209 => ?_)
      · have hd210 := bif_t c209 hd207
        refine AO.gn rfl rfl rfl ?_
        refine AO.gn rfl rfl rfl ?_
        refine AO.gn rfl rfl rfl ?_
        refine AO.p rfl (p_pickT rfl rfl) ?_
        refine AO.nil ?_
        have S211 := S186.front 1 rfl
        have S212 := S211.front 1 rfl
        have S213 := S212.front 4 rfl
        have S214 := S213.front 4 rfl
        have S215 := S214.front 4 rfl
        have S216 := S215.front 6 rfl
        have S217 := S216.front 6 rfl
        have S218 := S217.front 9 rfl
        have S219 := S218.keep 8
        exact ⟨true, (some_inj hd210), S219, Sub.cons' rfl rfl (Sub.cons' rfl rfl (Sub.cons' rfl rfl (Sub.cons' rfl rfl (Sub.cons' rfl rfl (Sub.cons' rfl rfl (Sub.cons' rfl rfl (Sub.nil _)))))))⟩
      · have hd220 := bif_f c209 hd207
        refine AO.gp rfl rfl rfl (p_move rfl) ?_
        refine AO.gp rfl rfl rfl (p_move rfl) ?_
        refine AO.gp rfl rfl rfl (p_neq rfl rfl) ?_
        refine AO.p rfl (p_pickF rfl rfl) ?_
        refine AO.nil ?_
        have S221 := S186.front 1 rfl
        have S222 := S221.front 1 rfl
        have S223 := S222.front 4 rfl
        have S224 := S223.front 4 rfl
        have S225 := S224.front 4 rfl
        have S226 := S225.front 6 rfl
        have S227 := S226.front 6 rfl
        have S228 := S227.front 9 rfl
        have S229 := S228.keep 8
        exact ⟨(!decide (x169 = x128)), (some_inj hd220), S229, Sub.cons' rfl rfl (Sub.cons' rfl rfl (Sub.cons' rfl rfl (Sub.cons' rfl rfl (Sub.cons' rfl rfl (Sub.cons' rfl rfl (Sub.cons' rfl rfl (Sub.nil _)))))))⟩
    · rintro t' G231 ⟨b201, rfl, S230, hsub232⟩
      refine AX.sub hsub232 ?_
      refine AX.cond rfl (fun c233 => ?_) (fun c233 => ?_)
      · have hd234 := bif_t c233 hd204
        refine AX.seq ?_
        refine AX.region ?_
        refine AO.p rfl (p_assign rfl) ?_
        refine AO.nil ?_
        refine AX.ret ?_
        obtain rfl := some_inj hd234
        exact ⟨.inr rfl, _, res1 rfl (rv_tmp rfl), rfl, (flatB_ok rfl), S230.hold⟩
      · have hd235 := bif_f c233 hd204
        refine AX.skip ?_
        refine AX.seq ?_
        refine AX.seq ?_
        refine DR.startS [false, false, true, true, false] mix (by kernel_rfl) (fun hst => ?_)
        refine DR.r rfl rfl (r_loadN (vs := [.int .i64 x146, .slice p150 rs147.length c151]) rfl Try.isAgg26 Try.sizeOf26 rfl) (many_row (row_cells (S230.get (k := 3) rfl)) (bel_cons (.of_flat0 rfl) (bel_cons (S230.oin (k := 4) rfl B153).bel bel_nil))) ?_
        refine DR.r rfl rfl (r_loadN (vs := [.int .i64 a0_0, .slice p_a0_1 a0_1.length c_a0_1]) rfl Try.isAgg24 Try.sizeOf24 rfl) (many_row (row_cells (S230.get (k := 0) rfl)) (bel_cons (.of_flat0 rfl) (bel_cons (S230.view v_a0_1).inn.bel bel_nil))) ?_
        obtain ⟨⟨x236, rs237⟩, h238, hd239⟩ := bnd_some hd235
        obtain ⟨_, G248, hc247, p240, c241, T244, rfl, S249, B243, t245, s246⟩ := W_laws_toSquare fu G231 a0_0 p_a0_1 c_a0_1 T_a0_1 a0_1 t_a0_1 (S230.view v_a0_1) (S230.tview w_a0_1) x236 rs237 h238
        have S250 := S230.call S249
        refine DR.w rfl rfl (o_call (vs := [.agg [.int .i64 a0_0, .slice p_a0_1 a0_1.length c_a0_1].toArray]) rfl Try.call17 hc247) (S249.len) ?_
        obtain ⟨b251, h252, hd253⟩ := bnd_some hd239
        refine DR.w rfl rfl (o_call (vs := [.agg [.int .i64 x146, .slice p150 rs147.length c151].toArray, .agg [.int .i64 x236, .slice p240 rs237.length c241].toArray]) rfl Try.call19 (W_laws_eqSquare fu G248 x146 p150 c151 T154 rs147 t155 (S250.oview (k := 6) rfl B153 (tc_len1 t155 rfl)) (S250.oviewT (k := 7) rfl s156) x236 p240 c241 T244 rs237 t245 (S250.oview (k := 0) rfl B243 (tc_len1 t245 rfl)) (S250.oviewT (k := 1) rfl s246) b251 h252)) (Nat.le_refl _) ?_
        refine DR.p rfl rfl (p_not rfl) ?_
        refine DR.nil 5 [(0, 2)] hst (by kernel_rfl) ⟨(rdN (fun h => S249.hold _ h)), trivial⟩ ?_
        refine AX.cond rfl (fun c255 => ?_) (fun c255 => ?_)
        · have hd256 := bif_t c255 hd253
          refine AX.seq ?_
          refine AX.region ?_
          refine AO.p rfl (p_assign rfl) ?_
          refine AO.nil ?_
          refine AX.ret ?_
          obtain rfl := some_inj hd256
          exact ⟨.inr rfl, _, res1 rfl (rv_tmp rfl), rfl, (flatB_ok rfl), S250.hold⟩
        · have hd257 := bif_f c255 hd253
          refine AX.skip ?_
          refine AX.seq ?_
          refine AX.region ?_
          refine AO.p rfl (p_assign rfl) ?_
          refine AO.nil ?_
          refine AX.seq ?_
          refine AX.region ?_
          refine AO.c rfl (s_loadN (vs := [.int .i64 x146, .slice p150 rs147.length c151]) Try.isAgg26 Try.sizeOf26 rfl rfl (row_cells (S250.get (k := 5) rfl))) ?_
          refine AO.p rfl (p_move rfl) ?_
          have S258 := S250.front 7 rfl
          have S259 := S258.front 7 rfl
          obtain ⟨⟨x260, rs261⟩, h262, hd263⟩ := bnd_some hd257
          obtain ⟨_, G269, hc268, T264, rfl, S270, t265, s266, l267⟩ := W_laws_markSquare fu G248 x146 p150 c151 T154 rs147 t155 B153 s156 1 ((S259).join2.onodup (k := 0) rfl) ((S259).join2.omem (k := 0) rfl) x260 rs261 h262
          have S271 := St.callM (A := [oseg p150 (tcells T154), tseg T154]) S259 S270 (by simp)
          refine AO.c rfl (o_call (vs := [.agg [.int .i64 x146, .slice p150 rs147.length c151].toArray, .int .i64 1]) rfl Try.call20 hc268) ?_
          refine AO.p rfl (p_assign rfl) ?_
          refine AO.nil ?_
          refine AX.seq ?_
          obtain ⟨r288, hb289, hd290⟩ := bnd_some hd263
          refine AX.cut (fun t' H' => ∃ (b287 : Bool), b287 = r288 ∧ St [] H H' [[(i101, AObj.row false ([.int .i64 a0_0, .slice p_a0_1 a0_1.length c_a0_1]))], [(i141, AObj.row false ([.int .i64 x126, .slice p131 rs127.length c132]))], oseg p131 (ints rs127.flatten), [(i182, AObj.row false ([.int .i64 x167, .slice p172 rs168.length c173]))], oseg p172 (ints rs168.flatten)] ∧ Am.Sub [(1, .pointer (some ⟨i101, 0, none⟩)), (4, .pointer (some ⟨i141, 0, none⟩)), (5, .int .i64 x128), (7, .pointer (some ⟨i182, 0, none⟩)), (61, .bool b287)] t') ?_ ?_
          · skip
            refine AX.region ?_
            refine AO.p rfl (p_move rfl) ?_
            refine AO.p rfl (p_lss rfl rfl) ?_
            refine AO.p rfl (p_move rfl) ?_
            refine AO.cases (d := 51) rfl (fun c291 => ?_) (fun c291 => ?_)
            · have hd292 := bif_t c291 hb289
              refine AO.gn rfl rfl rfl ?_
              refine AO.gn rfl rfl rfl ?_
              refine AO.gn rfl rfl rfl ?_
              refine AO.gn rfl rfl rfl ?_
              refine AO.p rfl (p_pickT rfl rfl) ?_
              refine AO.p rfl (p_move rfl) ?_
              refine AO.gn rfl rfl rfl ?_
              refine AO.gn rfl rfl rfl ?_
              refine AO.gn rfl rfl rfl ?_
              refine AO.p rfl (p_pickT rfl rfl) ?_
              refine AO.nil ?_
              have S293 := S271.front 9 rfl
              have S294 := S293.front 9 rfl
              have S295 := S294.front 8 rfl
              have S296 := S295.front 8 rfl
              have S297 := S296.front 8 rfl
              have S298 := S297.keep 5
              exact ⟨true, (some_inj hd292), S298, Sub.cons' rfl rfl (Sub.cons' rfl rfl (Sub.cons' rfl rfl (Sub.cons' rfl rfl (Sub.cons' rfl rfl (Sub.nil _)))))⟩
            · have hd299 := bif_f c291 hb289
              refine AO.gc rfl rfl rfl (s_loadN (vs := [.int .i64 x167, .slice p172 rs168.length c173]) Try.isAgg39 Try.sizeOf39 rfl rfl (row_cells (S271.get (k := 8) rfl))) ?_
              refine AO.gc rfl rfl rfl (s_loadN (vs := [.int .i64 x126, .slice p131 rs127.length c132]) Try.isAgg39 Try.sizeOf39 rfl rfl (row_cells (S271.get (k := 5) rfl))) ?_
              obtain ⟨b300, h301, hd302⟩ := bnd_some hd299
              refine AO.gc rfl rfl rfl (o_call (vs := [.agg [.int .i64 x167, .slice p172 rs168.length c173].toArray, .agg [.int .i64 x126, .slice p131 rs127.length c132].toArray]) rfl Try.call26 (W_laws_eqSchedule fu G269 x167 p172 c173 rs168 a176 (S271.oview (k := 9) rfl B175 (flat_len1 a176 rfl)) x126 p131 c132 rs127 a135 (S271.oview (k := 6) rfl B134 (flat_len1 a135 rfl)) b300 h301)) ?_
              refine AO.gp rfl rfl rfl (p_not rfl) ?_
              refine AO.p rfl (p_pickF rfl rfl) ?_
              refine AO.p rfl (p_move rfl) ?_
              refine AO.cases (d := 57) rfl (fun c304 => ?_) (fun c304 => ?_)
              · have hd305 := bif_t c304 hd302
                refine AO.gn rfl rfl rfl ?_
                refine AO.gn rfl rfl rfl ?_
                refine AO.gn rfl rfl rfl ?_
                refine AO.p rfl (p_pickT rfl rfl) ?_
                refine AO.nil ?_
                have S306 := S271.front 9 rfl
                have S307 := S306.front 9 rfl
                have S308 := S307.front 8 rfl
                have S309 := S308.front 8 rfl
                have S310 := S309.front 8 rfl
                have S311 := S310.keep 5
                exact ⟨true, (some_inj hd305), S311, Sub.cons' rfl rfl (Sub.cons' rfl rfl (Sub.cons' rfl rfl (Sub.cons' rfl rfl (Sub.cons' rfl rfl (Sub.nil _)))))⟩
              · have hd312 := bif_f c304 hd302
                refine AO.gp rfl rfl rfl (p_move rfl) ?_
                refine AO.gp rfl rfl rfl (p_move rfl) ?_
                refine AO.gp rfl rfl rfl (p_neq rfl rfl) ?_
                refine AO.p rfl (p_pickF rfl rfl) ?_
                refine AO.nil ?_
                have S313 := S271.front 9 rfl
                have S314 := S313.front 9 rfl
                have S315 := S314.front 8 rfl
                have S316 := S315.front 8 rfl
                have S317 := S316.front 8 rfl
                have S318 := S317.keep 5
                exact ⟨(!decide (x169 = x128)), (some_inj hd312), S318, Sub.cons' rfl rfl (Sub.cons' rfl rfl (Sub.cons' rfl rfl (Sub.cons' rfl rfl (Sub.cons' rfl rfl (Sub.nil _)))))⟩
          · rintro t' G320 ⟨b287, rfl, S319, hsub321⟩
            refine AX.sub hsub321 ?_
            refine AX.cond rfl (fun c322 => ?_) (fun c322 => ?_)
            · have hd323 := bif_t c322 hd290
              refine AX.seq ?_
              refine AX.region ?_
              refine AO.p rfl (p_assign rfl) ?_
              refine AO.nil ?_
              refine AX.ret ?_
              obtain rfl := some_inj hd323
              exact ⟨.inr rfl, _, res1 rfl (rv_tmp rfl), rfl, (flatB_ok rfl), S319.hold⟩
            · have hd324 := bif_f c322 hd290
              refine AX.skip ?_
              refine AX.seq ?_
              refine AX.region ?_
              refine AO.p rfl (p_assign rfl) ?_
              refine AO.nil ?_
              refine AX.seq ?_
              refine AX.region ?_
              refine AO.c rfl (s_loadN (vs := [.int .i64 x167, .slice p172 rs168.length c173]) Try.isAgg39 Try.sizeOf39 rfl rfl (row_cells (S319.get (k := 3) rfl))) ?_
              refine AO.p rfl (p_move rfl) ?_
              have S325 := S319.front 4 rfl
              obtain ⟨⟨x326, rs327⟩, h328, hd329⟩ := bnd_some hd324
              obtain ⟨_, G333, hc332, rfl, S334, l330, a331⟩ := W_laws_markSchedule fu G320 x167 p172 c173 rs168 a176 B175 1 (S325.onodup (k := 0) rfl) (S325.omem (k := 0) rfl) x326 rs327 h328
              have S335 := St.callM (A := [oseg p172 (ints rs168.flatten)]) S325 S334 (by simp)
              refine AO.c rfl (o_call (vs := [.agg [.int .i64 x167, .slice p172 rs168.length c173].toArray, .int .i64 1]) rfl Try.call27 hc332) ?_
              refine AO.p rfl (p_assign rfl) ?_
              refine AO.nil ?_
              refine AX.seq ?_
              refine AX.region ?_
              refine AO.p rfl (p_assign rfl) ?_
              refine AO.nil ?_
              refine AX.seq ?_
              refine AX.region ?_
              refine AO.c rfl (s_loadN (vs := [.int .i64 x167, .slice p172 rs168.length c173]) Try.isAgg39 Try.sizeOf39 rfl rfl (row_cells (S335.get (k := 4) rfl))) ?_
              refine AO.p rfl (p_move rfl) ?_
              obtain ⟨x336, h337, hd338⟩ := bnd_some hd329
              refine AO.c rfl (o_call (vs := [.agg [.int .i64 x167, .slice p172 rs168.length c173].toArray, .int .i64 1]) rfl Try.call28 (by have h' := W_laws_heldSchedule fu G333 x167 p172 c173 rs327 a331 (by rw [show List.length rs327 = rs168.length from l330]; exact (S335.oview (k := 0) rfl B175 (flat_len1 a331 l330))) 1 x336 h337; rw [show List.length rs327 = rs168.length from l330] at h'; exact h')) ?_
              refine AO.p rfl (p_assign rfl) ?_
              refine AO.nil ?_
              refine AX.seq ?_
              refine AX.seq ?_
              refine AX.region ?_
              refine AO.p rfl (p_move rfl) ?_
              refine AO.p rfl (p_lss rfl rfl) ?_
              refine AO.nil ?_
              refine AX.cond rfl (fun c340 => ?_) (fun c340 => ?_)
              · have hd341 := bif_t c340 hd338
                refine AX.seq ?_
                refine AX.region ?_
                refine AO.p rfl (p_assign rfl) ?_
                refine AO.nil ?_
                refine AX.ret ?_
                obtain rfl := some_inj hd341
                exact ⟨.inr rfl, _, res1 rfl (rv_tmp rfl), rfl, (flatB_ok rfl), S335.hold⟩
              · have hd342 := bif_f c340 hd338
                refine AX.skip ?_
                refine AX.seq ?_
                refine AX.seq ?_
                refine AX.region ?_
                refine AO.p rfl (p_move rfl) ?_
                refine AO.p rfl (p_move rfl) ?_
                refine AO.p rfl (p_neq rfl rfl) ?_
                refine AO.nil ?_
                refine AX.cond rfl (fun c343 => ?_) (fun c343 => ?_)
                · have hd344 := bif_t c343 hd342
                  refine AX.seq ?_
                  refine AX.region ?_
                  refine AO.p rfl (p_assign rfl) ?_
                  refine AO.nil ?_
                  refine AX.ret ?_
                  obtain rfl := some_inj hd344
                  exact ⟨.inr rfl, _, res1 rfl (rv_tmp rfl), rfl, (flatB_ok rfl), S335.hold⟩
                · have hd345 := bif_f c343 hd342
                  refine AX.skip ?_
                  refine AX.seq ?_
                  refine AX.region ?_
                  refine AO.c rfl (s_loadN (vs := [.int .i64 a0_0, .slice p_a0_1 a0_1.length c_a0_1]) Try.isAgg24 Try.sizeOf24 rfl rfl (row_cells (S335.get (k := 1) rfl))) ?_
                  obtain ⟨⟨x346, rs347⟩, h348, hd349⟩ := bnd_some hd345
                  obtain ⟨_, G358, hc357, p350, c351, T354, rfl, S359, B353, t355, s356⟩ := W_laws_toSquare fu G333 a0_0 p_a0_1 c_a0_1 T_a0_1 a0_1 t_a0_1 (S335.view v_a0_1) (S335.tview w_a0_1) x346 rs347 h348
                  have S360 := S335.call S359
                  refine AO.c rfl (o_call (vs := [.agg [.int .i64 a0_0, .slice p_a0_1 a0_1.length c_a0_1].toArray]) rfl Try.call17 hc357) ?_
                  obtain ⟨⟨x361, rs362, x363⟩, h364, hd365⟩ := bnd_some hd349
                  obtain ⟨_, G372, hc371, p366, c367, rfl, S373, B369, a370⟩ := W_impl_ColumnsOf fu G358 x346 p350 c351 T354 rs347 t355 (S360.oview (k := 0) rfl B353 (tc_len1 t355 rfl)) (S360.oviewT (k := 1) rfl s356) x361 rs362 x363 h364
                  have S374 := S360.call S373
                  refine AO.c rfl (o_call (vs := [.agg [.int .i64 x346, .slice p350 rs347.length c351].toArray]) rfl Try.call49 hc371) ?_
                  refine AO.p rfl (p_move rfl) ?_
                  refine AO.p rfl (p_extract rfl rfl) ?_
                  refine AO.p rfl (p_extract rfl rfl) ?_
                  obtain ⟨G375, i376, hii376, hHG375, S377⟩ := S374.new (AObj.row false ([.int .i64 0, .slice none 0 0]))
                  refine AO.c rfl (s_alloc (i := i376) (cs := [.int .i64 0, .slice none 0 0]) Try.zeroValue39 rfl rfl hii376 hHG375) ?_
                  obtain ⟨G379, hHG379, S380⟩ := S377.set (k := 0) (i := i376) rfl (AObj.row false ([.int .i64 x361, .slice p366 rs362.length c367]))
                  refine AO.s (s_storeAll (vs := [.int .i64 x361, .slice p366 rs362.length c367]) Try.sizeOf39 rfl rfl (ones_list rfl) (S377.get (k := 0) rfl) rfl rfl hHG379) ?_
                  refine AO.p rfl (p_assign rfl) ?_
                  refine AO.nil ?_
                  refine AX.seq ?_
                  obtain ⟨r391, hb392, hd393⟩ := bnd_some hd365
                  refine AX.cut (fun t' H' => ∃ (b390 : Bool), b390 = r391 ∧ St [] H H' [[(i182, AObj.row false ([.int .i64 x167, .slice p172 rs168.length c173]))], oseg p172 (ints rs327.flatten)] ∧ Am.Sub [(7, .pointer (some ⟨i182, 0, none⟩)), (10, .int .i64 x326), (87, .bool b390)] t') ?_ ?_
                  · skip
                    refine AX.region ?_
                    refine AO.c rfl (s_loadN (vs := [.int .i64 x361, .slice p366 rs362.length c367]) Try.isAgg39 Try.sizeOf39 rfl rfl (row_cells (S380.get (k := 0) rfl))) ?_
                    refine AO.c rfl (s_loadN (vs := [.int .i64 x126, .slice p131 rs127.length c132]) Try.isAgg39 Try.sizeOf39 rfl rfl (row_cells (S380.get (k := 6) rfl))) ?_
                    obtain ⟨b394, h395, hd396⟩ := bnd_some hb392
                    refine AO.c rfl (o_call (vs := [.agg [.int .i64 x361, .slice p366 rs362.length c367].toArray, .agg [.int .i64 x126, .slice p131 rs127.length c132].toArray]) rfl Try.call26 (W_laws_eqSchedule fu G379 x361 p366 c367 rs362 a370 (S380.oview (k := 1) rfl B369 (flat_len1 a370 rfl)) x126 p131 c132 rs127 a135 (S380.oview (k := 7) rfl B134 (flat_len1 a135 rfl)) b394 h395)) ?_
                    refine AO.p rfl (p_not rfl) ?_
                    refine AO.p rfl (p_move rfl) ?_
                    refine AO.cases (d := 83) rfl (fun c398 => ?_) (fun c398 => ?_)
                    · have hd399 := bif_t c398 hd396
                      refine AO.gn rfl rfl rfl ?_
                      refine AO.gn rfl rfl rfl ?_
                      refine AO.gn rfl rfl rfl ?_
                      refine AO.p rfl (p_pickT rfl rfl) ?_
                      refine AO.nil ?_
                      have S400 := S380.front 4 rfl
                      have S401 := S400.front 8 rfl
                      have S402 := S401.keep 2
                      exact ⟨true, (some_inj hd399), S402, Sub.cons' rfl rfl (Sub.cons' rfl rfl (Sub.cons' rfl rfl (Sub.nil _)))⟩
                    · have hd403 := bif_f c398 hd396
                      refine AO.gp rfl rfl rfl (p_move rfl) ?_
                      refine AO.gp rfl rfl rfl (p_move rfl) ?_
                      refine AO.gp rfl rfl rfl (p_neq rfl rfl) ?_
                      refine AO.p rfl (p_pickF rfl rfl) ?_
                      refine AO.nil ?_
                      have S404 := S380.front 4 rfl
                      have S405 := S404.front 8 rfl
                      have S406 := S405.keep 2
                      exact ⟨(!decide (x363 = x128)), (some_inj hd403), S406, Sub.cons' rfl rfl (Sub.cons' rfl rfl (Sub.cons' rfl rfl (Sub.nil _)))⟩
                  · rintro t' G408 ⟨b390, rfl, S407, hsub409⟩
                    refine AX.sub hsub409 ?_
                    refine AX.cond rfl (fun c410 => ?_) (fun c410 => ?_)
                    · have hd411 := bif_t c410 hd393
                      refine AX.seq ?_
                      refine AX.region ?_
                      refine AO.p rfl (p_assign rfl) ?_
                      refine AO.nil ?_
                      refine AX.ret ?_
                      obtain rfl := some_inj hd411
                      exact ⟨.inr rfl, _, res1 rfl (rv_tmp rfl), rfl, (flatB_ok rfl), S407.hold⟩
                    · have hd412 := bif_f c410 hd393
                      refine AX.skip ?_
                      refine AX.seq ?_
                      refine AX.region ?_
                      refine AO.p rfl (p_assign rfl) ?_
                      refine AO.nil ?_
                      refine AX.seq ?_
                      refine AX.region ?_
                      refine AO.c rfl (s_loadN (vs := [.int .i64 x167, .slice p172 rs168.length c173]) Try.isAgg39 Try.sizeOf39 rfl rfl (row_cells (S407.get (k := 0) rfl))) ?_
                      refine AO.p rfl (p_move rfl) ?_
                      obtain ⟨x413, h414, hd415⟩ := bnd_some hd412
                      refine AO.c rfl (o_call (vs := [.agg [.int .i64 x167, .slice p172 rs168.length c173].toArray, .int .i64 1]) rfl Try.call28 (by have h' := W_laws_heldSchedule fu G408 x167 p172 c173 rs327 a331 (by rw [show List.length rs327 = rs168.length from l330]; exact (S407.oview (k := 1) rfl B175 (flat_len1 a331 l330))) 1 x413 h414; rw [show List.length rs327 = rs168.length from l330] at h'; exact h')) ?_
                      refine AO.p rfl (p_assign rfl) ?_
                      refine AO.nil ?_
                      refine AX.seq ?_
                      refine AX.seq ?_
                      refine AX.region ?_
                      refine AO.p rfl (p_move rfl) ?_
                      refine AO.p rfl (p_lss rfl rfl) ?_
                      refine AO.nil ?_
                      refine AX.cond rfl (fun c417 => ?_) (fun c417 => ?_)
                      · have hd418 := bif_t c417 hd415
                        refine AX.seq ?_
                        refine AX.region ?_
                        refine AO.p rfl (p_assign rfl) ?_
                        refine AO.nil ?_
                        refine AX.ret ?_
                        obtain rfl := some_inj hd418
                        exact ⟨.inr rfl, _, res1 rfl (rv_tmp rfl), rfl, (flatB_ok rfl), S407.hold⟩
                      · have hd419 := bif_f c417 hd415
                        refine AX.skip ?_
                        refine AX.seq ?_
                        refine AX.seq ?_
                        refine AX.region ?_
                        refine AO.p rfl (p_move rfl) ?_
                        refine AO.p rfl (p_move rfl) ?_
                        refine AO.p rfl (p_neq rfl rfl) ?_
                        refine AO.nil ?_
                        refine AX.cond rfl (fun c420 => ?_) (fun c420 => ?_)
                        · have hd421 := bif_t c420 hd419
                          refine AX.seq ?_
                          refine AX.region ?_
                          refine AO.p rfl (p_assign rfl) ?_
                          refine AO.nil ?_
                          refine AX.ret ?_
                          obtain rfl := some_inj hd421
                          exact ⟨.inr rfl, _, res1 rfl (rv_tmp rfl), rfl, (flatB_ok rfl), S407.hold⟩
                        · have hd422 := bif_f c420 hd419
                          refine AX.skip ?_
                          refine AX.seq ?_
                          refine AX.region ?_
                          refine AO.p rfl (p_assign rfl) ?_
                          refine AO.nil ?_
                          refine AX.ret ?_
                          obtain rfl := some_inj hd422
                          exact ⟨.inr rfl, _, res1 rfl (rv_tmp rfl), rfl, (flatB_ok rfl), S407.hold⟩

end Go.Proofs.Ytpaaoafgahbokaa
