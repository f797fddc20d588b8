/-
  The program computes that, printed by a program. No condition.
-/
import Derived.Test.YtfiilgnebmidbaaDoorDZ
import Derived.Test.YtfiilgnebmidbaaDoorWH
import Derived.Test.YtfiilgnebmidbaaDoorProg
import Derived.KernelRfl
namespace Go.Proofs.YtfiilgnebmidbaaDoor
open Go Go.RowKit Am
set_option linter.unusedVariables false
set_option linter.unusedSimpArgs false
set_option maxRecDepth 20000
set_option maxHeartbeats 4000000 in
theorem W_laws_FnExactParseSquare (fu : Nat) (H : AHeap) (a0 : ByteArray) (r0 : Bool) (hd : D_laws_FnExactParseSquare fu a0 = some r0) : ACall Tryd.prog 5 [.string a0] H (.bool r0) H := by
  refine ACall.bodyP (N := 66) [(0, .string a0)] Tryd.func5 rfl rfl rfl rfl ?_
  unfold D_laws_FnExactParseSquare at hd
  have S0 : St [] H H [] := St.nil H
  refine AX.seq ?_
  refine AX.region ?_
  refine AO.p rfl (p_assign rfl) ?_
  refine AO.nil ?_
  refine AX.seq ?_
  refine AX.seq ?_
  refine AX.region ?_
  refine AO.p rfl (p_move rfl) ?_
  refine AO.p rfl (p_len_str rfl Tryd.underlying9) ?_
  refine AO.p rfl (p_gtr rfl rfl) ?_
  refine AO.nil ?_
  refine AX.cond rfl (fun c100 => ?_) (fun c100 => ?_)
  · have hd101 := bif_t c100 hd
    refine AX.seq ?_
    refine AX.region ?_
    refine AO.p rfl (p_assign rfl) ?_
    refine AO.nil ?_
    refine AX.ret ?_
    obtain rfl := some_inj hd101
    exact ⟨.inr rfl, _, res1 rfl (rv_tmp rfl), rfl, (flatB_ok rfl), S0.hold⟩
  · have hd102 := bif_f c100 hd
    refine AX.skip ?_
    refine AX.seq ?_
    refine AX.region ?_
    refine AO.p rfl (p_move rfl) ?_
    obtain ⟨⟨x103, rs104, x105⟩, h106, hd107⟩ := bnd_some hd102
    obtain ⟨_, G116, hc115, p108, c109, T112, rfl, S117, B111, t113, s114⟩ := W_spec_ParseSquare fu H a0 x103 rs104 x105 h106
    have S118 := S0.call S117
    refine AO.c rfl (o_call (vs := [.string a0]) rfl Tryd.call17 hc115) ?_
    refine AO.p rfl (p_move rfl) ?_
    refine AO.p rfl (p_extract rfl rfl) ?_
    refine AO.p rfl (p_extract rfl rfl) ?_
    obtain ⟨G119, i120, hii120, hHG119, S121⟩ := S118.new (AObj.row false ([.int .i64 0, .slice none 0 0]))
    refine AO.c rfl (s_alloc (i := i120) (cs := [.int .i64 0, .slice none 0 0]) Tryd.zeroValue28 rfl rfl hii120 hHG119) ?_
    obtain ⟨G123, hHG123, S124⟩ := S121.set (k := 0) (i := i120) rfl (AObj.row false ([.int .i64 x103, .slice p108 rs104.length c109]))
    refine AO.s (s_storeAll (vs := [.int .i64 x103, .slice p108 rs104.length c109]) Tryd.sizeOf28 rfl rfl (ones_list rfl) (S121.get (k := 0) rfl) rfl rfl hHG123) ?_
    refine AO.p rfl (p_assign rfl) ?_
    refine AO.nil ?_
    refine AX.seq ?_
    refine AX.region ?_
    refine AO.p rfl (p_move rfl) ?_
    obtain ⟨⟨x125, rs126, x127⟩, h128, hd129⟩ := bnd_some hd107
    obtain ⟨_, G138, hc137, p130, c131, T134, rfl, S139, B133, t135, s136⟩ := W_impl_ParseSquare fu G123 a0 x125 rs126 x127 h128
    have S140 := S124.call S139
    refine AO.c rfl (o_call (vs := [.string a0]) rfl Tryd.call18 hc137) ?_
    refine AO.p rfl (p_move rfl) ?_
    refine AO.p rfl (p_extract rfl rfl) ?_
    refine AO.p rfl (p_extract rfl rfl) ?_
    obtain ⟨G141, i142, hii142, hHG141, S143⟩ := S140.new (AObj.row false ([.int .i64 0, .slice none 0 0]))
    refine AO.c rfl (s_alloc (i := i142) (cs := [.int .i64 0, .slice none 0 0]) Tryd.zeroValue28 rfl rfl hii142 hHG141) ?_
    obtain ⟨G145, hHG145, S146⟩ := S143.set (k := 0) (i := i142) rfl (AObj.row false ([.int .i64 x125, .slice p130 rs126.length c131]))
    refine AO.s (s_storeAll (vs := [.int .i64 x125, .slice p130 rs126.length c131]) Tryd.sizeOf28 rfl rfl (ones_list rfl) (S143.get (k := 0) rfl) rfl rfl hHG145) ?_
    refine AO.p rfl (p_assign rfl) ?_
    refine AO.nil ?_
    refine AX.seq ?_
    obtain ⟨r159, hb160, hd161⟩ := bnd_some hd129
    refine AX.cut (fun t' H' => ∃ (b158 : Bool), b158 = r159 ∧ St [] H H' [[(i120, AObj.row false ([.int .i64 x103, .slice p108 rs104.length c109]))], oseg p108 (tcells T112), tseg T112, [(i142, AObj.row false ([.int .i64 x125, .slice p130 rs126.length c131]))], oseg p130 (tcells T134), tseg T134] ∧ Am.Sub [(0, .string a0), (3, .pointer (some ⟨i120, 0, none⟩)), (4, .int .i64 x105), (5, .pointer (some ⟨i142, 0, none⟩)), (32, .bool b158)] t') ?_ ?_
    · skip
      refine AX.region ?_
      refine AO.c rfl (s_loadN (vs := [.int .i64 x125, .slice p130 rs126.length c131]) Tryd.isAgg28 Tryd.sizeOf28 rfl rfl (row_cells (S146.get (k := 0) rfl))) ?_
      refine AO.c rfl (s_loadN (vs := [.int .i64 x103, .slice p108 rs104.length c109]) Tryd.isAgg28 Tryd.sizeOf28 rfl rfl (row_cells (S146.get (k := 3) rfl))) ?_
      obtain ⟨b162, h163, hd164⟩ := bnd_some hb160
      refine AO.c rfl (o_call (vs := [.agg [.int .i64 x125, .slice p130 rs126.length c131].toArray, .agg [.int .i64 x103, .slice p108 rs104.length c109].toArray]) rfl Tryd.call11 (W_laws_eqSquare fu G145 x125 p130 c131 T134 rs126 t135 (S146.oview (k := 1) rfl B133 (tc_len1 t135 rfl)) (S146.oviewT (k := 2) rfl s136) x103 p108 c109 T112 rs104 t113 (S146.oview (k := 4) rfl B111 (tc_len1 t113 rfl)) (S146.oviewT (k := 5) rfl s114) b162 h163)) ?_
      refine AO.p rfl (p_not rfl) ?_
      refine AO.p rfl (p_move rfl) ?_
      refine AO.cases (d := 28) rfl (fun c166 => ?_) (fun c166 => ?_)
      · have hd167 := bif_t c166 hd164
        refine AO.gn rfl rfl rfl ?_
        refine AO.gn rfl rfl rfl ?_
        refine AO.gn rfl rfl rfl ?_
        refine AO.p rfl (p_pickT rfl rfl) ?_
        refine AO.nil ?_
        have S168 := S146.front 2 rfl
        have S169 := S168.front 2 rfl
        have S170 := S169.front 2 rfl
        have S171 := S170.front 5 rfl
        have S172 := S171.front 5 rfl
        have S173 := S172.front 5 rfl
        exact ⟨true, (some_inj hd167), S173, Sub.cons' rfl rfl (Sub.cons' rfl rfl (Sub.cons' rfl rfl (Sub.cons' rfl rfl (Sub.cons' rfl rfl (Sub.nil _)))))⟩
      · have hd174 := bif_f c166 hd164
        refine AO.gp rfl rfl rfl (p_move rfl) ?_
        refine AO.gp rfl rfl rfl (p_move rfl) ?_
        refine AO.gp rfl rfl rfl (p_neq rfl rfl) ?_
        refine AO.p rfl (p_pickF rfl rfl) ?_
        refine AO.nil ?_
        have S175 := S146.front 2 rfl
        have S176 := S175.front 2 rfl
        have S177 := S176.front 2 rfl
        have S178 := S177.front 5 rfl
        have S179 := S178.front 5 rfl
        have S180 := S179.front 5 rfl
        exact ⟨(!decide (x127 = x105)), (some_inj hd174), S180, Sub.cons' rfl rfl (Sub.cons' rfl rfl (Sub.cons' rfl rfl (Sub.cons' rfl rfl (Sub.cons' rfl rfl (Sub.nil _)))))⟩
    · rintro t' G182 ⟨b158, rfl, S181, hsub183⟩
      refine AX.sub hsub183 ?_
      refine AX.cond rfl (fun c184 => ?_) (fun c184 => ?_)
      · have hd185 := bif_t c184 hd161
        refine AX.seq ?_
        refine AX.region ?_
        refine AO.p rfl (p_assign rfl) ?_
        refine AO.nil ?_
        refine AX.ret ?_
        obtain rfl := some_inj hd185
        exact ⟨.inr rfl, _, res1 rfl (rv_tmp rfl), rfl, (flatB_ok rfl), S181.hold⟩
      · have hd186 := bif_f c184 hd161
        refine AX.skip ?_
        refine AX.seq ?_
        refine AX.region ?_
        refine AO.p rfl (p_assign rfl) ?_
        refine AO.nil ?_
        refine AX.seq ?_
        refine AX.region ?_
        refine AO.c rfl (s_loadN (vs := [.int .i64 x125, .slice p130 rs126.length c131]) Tryd.isAgg28 Tryd.sizeOf28 rfl rfl (row_cells (S181.get (k := 3) rfl))) ?_
        refine AO.p rfl (p_move rfl) ?_
        have S187 := S181.front 5 rfl
        have S188 := S187.front 5 rfl
        obtain ⟨⟨x189, rs190⟩, h191, hd192⟩ := bnd_some hd186
        obtain ⟨_, G198, hc197, T193, rfl, S199, t194, s195, l196⟩ := W_laws_markSquare fu G182 x125 p130 c131 T134 rs126 t135 B133 s136 1 ((S188).join2.onodup (k := 0) rfl) ((S188).join2.omem (k := 0) rfl) x189 rs190 h191
        have S200 := St.callM (A := [oseg p130 (tcells T134), tseg T134]) S188 S199 (by simp)
        refine AO.c rfl (o_call (vs := [.agg [.int .i64 x125, .slice p130 rs126.length c131].toArray, .int .i64 1]) rfl Tryd.call19 hc197) ?_
        refine AO.p rfl (p_assign rfl) ?_
        refine AO.nil ?_
        refine AX.seq ?_
        refine AX.region ?_
        refine AO.p rfl (p_assign rfl) ?_
        refine AO.nil ?_
        refine AX.seq ?_
        refine AX.region ?_
        refine AO.c rfl (s_loadN (vs := [.int .i64 x125, .slice p130 rs126.length c131]) Tryd.isAgg28 Tryd.sizeOf28 rfl rfl (row_cells (S200.get (k := 5) rfl))) ?_
        refine AO.p rfl (p_move rfl) ?_
        obtain ⟨x201, h202, hd203⟩ := bnd_some hd192
        refine AO.c rfl (o_call (vs := [.agg [.int .i64 x125, .slice p130 rs126.length c131].toArray, .int .i64 1]) rfl Tryd.call20 (by have h' := W_laws_heldSquare fu G198 x125 p130 c131 T193 rs190 t194 (by rw [show List.length rs190 = rs126.length from (Eq.trans l196 rfl)]; exact (S200.oview (k := 0) rfl B133 (tc_len1 t194 (Eq.trans l196 rfl)))) (S200.oviewT (k := 1) rfl s195) 1 x201 h202; rw [show List.length rs190 = rs126.length from (Eq.trans l196 rfl)] at h'; exact h')) ?_
        refine AO.p rfl (p_assign rfl) ?_
        refine AO.nil ?_
        refine AX.seq ?_
        refine AX.seq ?_
        refine AX.region ?_
        refine AO.p rfl (p_move rfl) ?_
        refine AO.p rfl (p_lss rfl rfl) ?_
        refine AO.nil ?_
        refine AX.cond rfl (fun c205 => ?_) (fun c205 => ?_)
        · have hd206 := bif_t c205 hd203
          refine AX.seq ?_
          refine AX.region ?_
          refine AO.p rfl (p_assign rfl) ?_
          refine AO.nil ?_
          refine AX.ret ?_
          obtain rfl := some_inj hd206
          exact ⟨.inr rfl, _, res1 rfl (rv_tmp rfl), rfl, (flatB_ok rfl), S200.hold⟩
        · have hd207 := bif_f c205 hd203
          refine AX.skip ?_
          refine AX.seq ?_
          refine AX.seq ?_
          refine AX.region ?_
          refine AO.p rfl (p_move rfl) ?_
          refine AO.p rfl (p_move rfl) ?_
          refine AO.p rfl (p_neq rfl rfl) ?_
          refine AO.nil ?_
          refine AX.cond rfl (fun c208 => ?_) (fun c208 => ?_)
          · have hd209 := bif_t c208 hd207
            refine AX.seq ?_
            refine AX.region ?_
            refine AO.p rfl (p_assign rfl) ?_
            refine AO.nil ?_
            refine AX.ret ?_
            obtain rfl := some_inj hd209
            exact ⟨.inr rfl, _, res1 rfl (rv_tmp rfl), rfl, (flatB_ok rfl), S200.hold⟩
          · have hd210 := bif_f c208 hd207
            refine AX.skip ?_
            refine AX.seq ?_
            refine AX.region ?_
            refine AO.p rfl (p_move rfl) ?_
            obtain ⟨⟨x211, rs212, x213⟩, h214, hd215⟩ := bnd_some hd210
            obtain ⟨_, G224, hc223, p216, c217, T220, rfl, S225, B219, t221, s222⟩ := W_impl_ParseSquare fu G198 a0 x211 rs212 x213 h214
            have S226 := S200.call S225
            refine AO.c rfl (o_call (vs := [.string a0]) rfl Tryd.call18 hc223) ?_
            refine AO.p rfl (p_move rfl) ?_
            refine AO.p rfl (p_extract rfl rfl) ?_
            refine AO.p rfl (p_extract rfl rfl) ?_
            obtain ⟨G227, i228, hii228, hHG227, S229⟩ := S226.new (AObj.row false ([.int .i64 0, .slice none 0 0]))
            refine AO.c rfl (s_alloc (i := i228) (cs := [.int .i64 0, .slice none 0 0]) Tryd.zeroValue28 rfl rfl hii228 hHG227) ?_
            obtain ⟨G231, hHG231, S232⟩ := S229.set (k := 0) (i := i228) rfl (AObj.row false ([.int .i64 x211, .slice p216 rs212.length c217]))
            refine AO.s (s_storeAll (vs := [.int .i64 x211, .slice p216 rs212.length c217]) Tryd.sizeOf28 rfl rfl (ones_list rfl) (S229.get (k := 0) rfl) rfl rfl hHG231) ?_
            refine AO.p rfl (p_assign rfl) ?_
            refine AO.nil ?_
            refine AX.seq ?_
            obtain ⟨r243, hb244, hd245⟩ := bnd_some hd215
            refine AX.cut (fun t' H' => ∃ (b242 : Bool), b242 = r243 ∧ St [] H H' [[(i142, AObj.row false ([.int .i64 x125, .slice p130 rs126.length c131]))], oseg p130 (tcells T193), tseg T193] ∧ Am.Sub [(5, .pointer (some ⟨i142, 0, none⟩)), (7, .int .i64 x189), (57, .bool b242)] t') ?_ ?_
            · skip
              refine AX.region ?_
              refine AO.c rfl (s_loadN (vs := [.int .i64 x211, .slice p216 rs212.length c217]) Tryd.isAgg28 Tryd.sizeOf28 rfl rfl (row_cells (S232.get (k := 0) rfl))) ?_
              refine AO.c rfl (s_loadN (vs := [.int .i64 x103, .slice p108 rs104.length c109]) Tryd.isAgg28 Tryd.sizeOf28 rfl rfl (row_cells (S232.get (k := 5) rfl))) ?_
              obtain ⟨b246, h247, hd248⟩ := bnd_some hb244
              refine AO.c rfl (o_call (vs := [.agg [.int .i64 x211, .slice p216 rs212.length c217].toArray, .agg [.int .i64 x103, .slice p108 rs104.length c109].toArray]) rfl Tryd.call11 (W_laws_eqSquare fu G231 x211 p216 c217 T220 rs212 t221 (S232.oview (k := 1) rfl B219 (tc_len1 t221 rfl)) (S232.oviewT (k := 2) rfl s222) x103 p108 c109 T112 rs104 t113 (S232.oview (k := 6) rfl B111 (tc_len1 t113 rfl)) (S232.oviewT (k := 7) rfl s114) b246 h247)) ?_
              refine AO.p rfl (p_not rfl) ?_
              refine AO.p rfl (p_move rfl) ?_
              refine AO.cases (d := 53) rfl (fun c250 => ?_) (fun c250 => ?_)
              · have hd251 := bif_t c250 hd248
                refine AO.gn rfl rfl rfl ?_
                refine AO.gn rfl rfl rfl ?_
                refine AO.gn rfl rfl rfl ?_
                refine AO.p rfl (p_pickT rfl rfl) ?_
                refine AO.nil ?_
                have S252 := S232.front 4 rfl
                have S253 := S252.front 4 rfl
                have S254 := S253.front 8 rfl
                have S255 := S254.keep 3
                exact ⟨true, (some_inj hd251), S255, Sub.cons' rfl rfl (Sub.cons' rfl rfl (Sub.cons' rfl rfl (Sub.nil _)))⟩
              · have hd256 := bif_f c250 hd248
                refine AO.gp rfl rfl rfl (p_move rfl) ?_
                refine AO.gp rfl rfl rfl (p_move rfl) ?_
                refine AO.gp rfl rfl rfl (p_neq rfl rfl) ?_
                refine AO.p rfl (p_pickF rfl rfl) ?_
                refine AO.nil ?_
                have S257 := S232.front 4 rfl
                have S258 := S257.front 4 rfl
                have S259 := S258.front 8 rfl
                have S260 := S259.keep 3
                exact ⟨(!decide (x213 = x105)), (some_inj hd256), S260, Sub.cons' rfl rfl (Sub.cons' rfl rfl (Sub.cons' rfl rfl (Sub.nil _)))⟩
            · rintro t' G262 ⟨b242, rfl, S261, hsub263⟩
              refine AX.sub hsub263 ?_
              refine AX.cond rfl (fun c264 => ?_) (fun c264 => ?_)
              · have hd265 := bif_t c264 hd245
                refine AX.seq ?_
                refine AX.region ?_
                refine AO.p rfl (p_assign rfl) ?_
                refine AO.nil ?_
                refine AX.ret ?_
                obtain rfl := some_inj hd265
                exact ⟨.inr rfl, _, res1 rfl (rv_tmp rfl), rfl, (flatB_ok rfl), S261.hold⟩
              · have hd266 := bif_f c264 hd245
                refine AX.skip ?_
                refine AX.seq ?_
                refine AX.region ?_
                refine AO.p rfl (p_assign rfl) ?_
                refine AO.nil ?_
                refine AX.seq ?_
                refine AX.region ?_
                refine AO.c rfl (s_loadN (vs := [.int .i64 x125, .slice p130 rs126.length c131]) Tryd.isAgg28 Tryd.sizeOf28 rfl rfl (row_cells (S261.get (k := 0) rfl))) ?_
                refine AO.p rfl (p_move rfl) ?_
                obtain ⟨x267, h268, hd269⟩ := bnd_some hd266
                refine AO.c rfl (o_call (vs := [.agg [.int .i64 x125, .slice p130 rs126.length c131].toArray, .int .i64 1]) rfl Tryd.call20 (by have h' := W_laws_heldSquare fu G262 x125 p130 c131 T193 rs190 t194 (by rw [show List.length rs190 = rs126.length from (Eq.trans l196 rfl)]; exact (S261.oview (k := 1) rfl B133 (tc_len1 t194 (Eq.trans l196 rfl)))) (S261.oviewT (k := 2) rfl s195) 1 x267 h268; rw [show List.length rs190 = rs126.length from (Eq.trans l196 rfl)] at h'; exact h')) ?_
                refine AO.p rfl (p_assign rfl) ?_
                refine AO.nil ?_
                refine AX.seq ?_
                refine AX.seq ?_
                refine AX.region ?_
                refine AO.p rfl (p_move rfl) ?_
                refine AO.p rfl (p_lss rfl rfl) ?_
                refine AO.nil ?_
                refine AX.cond rfl (fun c271 => ?_) (fun c271 => ?_)
                · have hd272 := bif_t c271 hd269
                  refine AX.seq ?_
                  refine AX.region ?_
                  refine AO.p rfl (p_assign rfl) ?_
                  refine AO.nil ?_
                  refine AX.ret ?_
                  obtain rfl := some_inj hd272
                  exact ⟨.inr rfl, _, res1 rfl (rv_tmp rfl), rfl, (flatB_ok rfl), S261.hold⟩
                · have hd273 := bif_f c271 hd269
                  refine AX.skip ?_
                  refine AX.seq ?_
                  refine AX.seq ?_
                  refine AX.region ?_
                  refine AO.p rfl (p_move rfl) ?_
                  refine AO.p rfl (p_move rfl) ?_
                  refine AO.p rfl (p_neq rfl rfl) ?_
                  refine AO.nil ?_
                  refine AX.cond rfl (fun c274 => ?_) (fun c274 => ?_)
                  · have hd275 := bif_t c274 hd273
                    refine AX.seq ?_
                    refine AX.region ?_
                    refine AO.p rfl (p_assign rfl) ?_
                    refine AO.nil ?_
                    refine AX.ret ?_
                    obtain rfl := some_inj hd275
                    exact ⟨.inr rfl, _, res1 rfl (rv_tmp rfl), rfl, (flatB_ok rfl), S261.hold⟩
                  · have hd276 := bif_f c274 hd273
                    refine AX.skip ?_
                    refine AX.seq ?_
                    refine AX.region ?_
                    refine AO.p rfl (p_assign rfl) ?_
                    refine AO.nil ?_
                    refine AX.ret ?_
                    obtain rfl := some_inj hd276
                    exact ⟨.inr rfl, _, res1 rfl (rv_tmp rfl), rfl, (flatB_ok rfl), S261.hold⟩

end Go.Proofs.YtfiilgnebmidbaaDoor
