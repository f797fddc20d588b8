/-
  The program computes that, printed by a program. No condition.
-/
import Derived.Test.YtocaepkkaihiiaaDX
import Derived.Test.YtocaepkkaihiiaaWC
import Derived.Test.YtocaepkkaihiiaaWE
import Derived.Test.YtocaepkkaihiiaaProg
import Derived.KernelRfl
namespace Go.Proofs.Ytocaepkkaihiiaa
open Go Go.RowKit Am
set_option linter.unusedVariables false
set_option linter.unusedSimpArgs false
set_option maxRecDepth 20000
set_option maxHeartbeats 4000000 in
theorem W_laws_FnExactPairsOf (fu : Nat) (H : AHeap) (a0 : Int) (a1 : List Int) (h_a1 : a1.length = 14) (r0 : Bool) (hd : D_laws_FnExactPairsOf fu a0 a1 = some r0) : ACall Try.prog 3 [.int .i64 a0, .agg (ints a1).toArray] H (.bool r0) H := by
  refine ACall.bodyP (N := 71) [(0, .int .i64 a0), (1, .agg (ints a1).toArray)] Try.func3 rfl rfl rfl rfl ?_
  unfold D_laws_FnExactPairsOf at hd
  have S0 : St [] H H [] := St.nil H
  refine AX.seq ?_
  refine AX.region ?_
  obtain ⟨G100, i101, hii101, hHG100, S102⟩ := S0.new (.row false (ints a1))
  refine AO.c rfl (s_box (i := i101) (cs := ints a1) rfl hii101 rfl hHG100) ?_
  refine AO.p rfl (p_assign rfl) ?_
  refine AO.nil ?_
  refine AX.seq ?_
  refine AX.region ?_
  refine AO.p rfl (p_move rfl) ?_
  refine AO.c rfl (s_loadN (vs := ints a1) Try.isAgg22 Try.sizeOf22 rfl (ints_len h_a1) (row_cells (S102.get (k := 0) rfl))) ?_
  obtain ⟨xs104, h105, hd106⟩ := bnd_some hd
  obtain ⟨hc108, l109⟩ := W_laws_toRound fu G100 a1 h_a1 xs104 h105
  refine AO.c rfl (o_call (vs := [.agg (ints a1).toArray]) rfl Try.call16 hc108) ?_
  obtain ⟨⟨rs110, x111⟩, h112, hd113⟩ := bnd_some hd106
  obtain ⟨_, G122, hc121, p114, c115, T118, rfl, S123, B117, t119, s120⟩ := W_spec_PairsOf fu G100 a0 xs104 l109 rs110 x111 h112
  have S124 := S102.call S123
  refine AO.c rfl (o_call (vs := [.int .i64 a0, .agg (ints xs104).toArray]) rfl Try.call15 hc121) ?_
  refine AO.p rfl (p_move rfl) ?_
  refine AO.p rfl (p_extract rfl rfl) ?_
  refine AO.p rfl (p_extract rfl rfl) ?_
  refine AO.p rfl (p_assign rfl) ?_
  refine AO.p rfl (p_assign rfl) ?_
  refine AO.nil ?_
  refine AX.seq ?_
  refine AX.region ?_
  refine AO.p rfl (p_move rfl) ?_
  refine AO.c rfl (s_loadN (vs := ints a1) Try.isAgg22 Try.sizeOf22 rfl (ints_len h_a1) (row_cells (S124.get (k := 2) rfl))) ?_
  obtain ⟨xs125, h126, hd127⟩ := bnd_some hd113
  obtain ⟨hc129, l130⟩ := W_laws_toRound fu G122 a1 h_a1 xs125 h126
  refine AO.c rfl (o_call (vs := [.agg (ints a1).toArray]) rfl Try.call16 hc129) ?_
  obtain ⟨⟨rs131, x132⟩, h133, hd134⟩ := bnd_some hd127
  obtain ⟨_, G143, hc142, p135, c136, T139, rfl, S144, B138, t140, s141⟩ := W_impl_PairsOf fu G122 a0 xs125 l130 rs131 x132 h133
  have S145 := S124.call S144
  refine AO.c rfl (o_call (vs := [.int .i64 a0, .agg (ints xs125).toArray]) rfl Try.call17 hc142) ?_
  refine AO.p rfl (p_move rfl) ?_
  refine AO.p rfl (p_extract rfl rfl) ?_
  refine AO.p rfl (p_extract rfl rfl) ?_
  refine AO.p rfl (p_assign rfl) ?_
  refine AO.p rfl (p_assign rfl) ?_
  refine AO.nil ?_
  refine AX.seq ?_
  obtain ⟨r157, hb158, hd159⟩ := bnd_some hd134
  refine AX.cut (fun t' H' => ∃ (b156 : Bool), b156 = r157 ∧ St [] H H' [[(i101, AObj.row false (ints a1))], oseg p114 (tcells T118), tseg T118, oseg p135 (tcells T139), tseg T139] ∧ Am.Sub [(0, .int .i64 a0), (3, .pointer (some ⟨i101, 0, none⟩)), (5, .slice p114 rs110.length c115), (6, .int .i64 x111), (7, .slice p135 rs131.length c136), (35, .bool b156)] t') ?_ ?_
  · skip
    refine AX.region ?_
    refine AO.p rfl (p_move rfl) ?_
    refine AO.p rfl (p_move rfl) ?_
    obtain ⟨b160, h161, hd162⟩ := bnd_some hb158
    refine AO.c rfl (o_call (vs := [.slice p135 rs131.length c136, .slice p114 rs110.length c115]) rfl Try.call18 (W_laws_eqInt64SS fu G143 p135 c136 T139 rs131 t140 (S145.oview (k := 0) rfl B138 (tc_len1 t140 rfl)) (S145.oviewT (k := 1) rfl s141) p114 c115 T118 rs110 t119 (S145.oview (k := 2) rfl B117 (tc_len1 t119 rfl)) (S145.oviewT (k := 3) rfl s120) b160 h161)) ?_
    refine AO.p rfl (p_not rfl) ?_
    refine AO.p rfl (p_move rfl) ?_
    refine AO.cases (d := 31) rfl (fun c164 => ?_) (fun c164 => ?_)
    · have hd165 := bif_t c164 hd162
      refine AO.gn rfl rfl rfl ?_
      refine AO.gn rfl rfl rfl ?_
      refine AO.gn rfl rfl rfl ?_
      refine AO.p rfl (p_pickT rfl rfl) ?_
      refine AO.nil ?_
      have S166 := S145.front 1 rfl
      have S167 := S166.front 1 rfl
      have S168 := S167.front 3 rfl
      have S169 := S168.front 3 rfl
      have S170 := S169.front 4 rfl
      exact ⟨true, (some_inj hd165), S170, Sub.cons' rfl rfl (Sub.cons' rfl rfl (Sub.cons' rfl rfl (Sub.cons' rfl rfl (Sub.cons' rfl rfl (Sub.cons' rfl rfl (Sub.nil _))))))⟩
    · have hd171 := bif_f c164 hd162
      refine AO.gp rfl rfl rfl (p_move rfl) ?_
      refine AO.gp rfl rfl rfl (p_move rfl) ?_
      refine AO.gp rfl rfl rfl (p_neq rfl rfl) ?_
      refine AO.p rfl (p_pickF rfl rfl) ?_
      refine AO.nil ?_
      have S172 := S145.front 1 rfl
      have S173 := S172.front 1 rfl
      have S174 := S173.front 3 rfl
      have S175 := S174.front 3 rfl
      have S176 := S175.front 4 rfl
      exact ⟨(!decide (x132 = x111)), (some_inj hd171), S176, Sub.cons' rfl rfl (Sub.cons' rfl rfl (Sub.cons' rfl rfl (Sub.cons' rfl rfl (Sub.cons' rfl rfl (Sub.cons' rfl rfl (Sub.nil _))))))⟩
  · rintro t' G178 ⟨b156, rfl, S177, hsub179⟩
    refine AX.sub hsub179 ?_
    refine AX.cond rfl (fun c180 => ?_) (fun c180 => ?_)
    · have hd181 := bif_t c180 hd159
      refine AX.seq ?_
      refine AX.region ?_
      refine AO.p rfl (p_assign rfl) ?_
      refine AO.nil ?_
      refine AX.ret ?_
      obtain rfl := some_inj hd181
      exact ⟨.inr rfl, _, res1 rfl (rv_tmp rfl), rfl, (flatB_ok rfl), S177.hold⟩
    · have hd182 := bif_f c180 hd159
      refine AX.skip ?_
      refine AX.seq ?_
      refine AX.region ?_
      refine AO.p rfl (p_assign rfl) ?_
      refine AO.nil ?_
      refine AX.seq ?_
      refine AX.region ?_
      refine AO.p rfl (p_move rfl) ?_
      refine AO.p rfl (p_move rfl) ?_
      have S183 := S177.front 4 rfl
      have S184 := S183.front 4 rfl
      obtain ⟨⟨x185, rs186⟩, h187, hd188⟩ := bnd_some hd182
      obtain ⟨_, G194, hc193, T189, rfl, S195, t190, s191, l192⟩ := W_laws_markInt64SS fu G178 p135 c136 T139 rs131 t140 B138 s141 1 ((S184).join2.onodup (k := 0) rfl) ((S184).join2.omem (k := 0) rfl) x185 rs186 h187
      have S196 := St.callM (A := [oseg p135 (tcells T139), tseg T139]) S184 S195 (by simp)
      refine AO.c rfl (o_call (vs := [.slice p135 rs131.length c136, .int .i64 1]) rfl Try.call19 hc193) ?_
      refine AO.p rfl (p_assign rfl) ?_
      refine AO.nil ?_
      refine AX.seq ?_
      refine AX.region ?_
      refine AO.p rfl (p_assign rfl) ?_
      refine AO.nil ?_
      refine AX.seq ?_
      refine AX.region ?_
      refine AO.p rfl (p_move rfl) ?_
      refine AO.p rfl (p_move rfl) ?_
      obtain ⟨x197, h198, hd199⟩ := bnd_some hd188
      refine AO.c rfl (o_call (vs := [.slice p135 rs131.length c136, .int .i64 1]) rfl Try.call20 (by have h' := W_laws_heldInt64SS fu G194 p135 c136 T189 rs186 t190 (by rw [show List.length rs186 = rs131.length from (Eq.trans l192 rfl)]; exact (S196.oview (k := 0) rfl B138 (tc_len1 t190 (Eq.trans l192 rfl)))) (S196.oviewT (k := 1) rfl s191) 1 x197 h198; rw [show List.length rs186 = rs131.length from (Eq.trans l192 rfl)] at h'; exact h')) ?_
      refine AO.p rfl (p_assign rfl) ?_
      refine AO.nil ?_
      refine AX.seq ?_
      refine AX.seq ?_
      refine AX.region ?_
      refine AO.p rfl (p_move rfl) ?_
      refine AO.p rfl (p_lss rfl rfl) ?_
      refine AO.nil ?_
      refine AX.cond rfl (fun c201 => ?_) (fun c201 => ?_)
      · have hd202 := bif_t c201 hd199
        refine AX.seq ?_
        refine AX.region ?_
        refine AO.p rfl (p_assign rfl) ?_
        refine AO.nil ?_
        refine AX.ret ?_
        obtain rfl := some_inj hd202
        exact ⟨.inr rfl, _, res1 rfl (rv_tmp rfl), rfl, (flatB_ok rfl), S196.hold⟩
      · have hd203 := bif_f c201 hd199
        refine AX.skip ?_
        refine AX.seq ?_
        refine AX.seq ?_
        refine AX.region ?_
        refine AO.p rfl (p_move rfl) ?_
        refine AO.p rfl (p_move rfl) ?_
        refine AO.p rfl (p_neq rfl rfl) ?_
        refine AO.nil ?_
        refine AX.cond rfl (fun c204 => ?_) (fun c204 => ?_)
        · have hd205 := bif_t c204 hd203
          refine AX.seq ?_
          refine AX.region ?_
          refine AO.p rfl (p_assign rfl) ?_
          refine AO.nil ?_
          refine AX.ret ?_
          obtain rfl := some_inj hd205
          exact ⟨.inr rfl, _, res1 rfl (rv_tmp rfl), rfl, (flatB_ok rfl), S196.hold⟩
        · have hd206 := bif_f c204 hd203
          refine AX.skip ?_
          refine AX.seq ?_
          refine AX.region ?_
          refine AO.p rfl (p_move rfl) ?_
          refine AO.c rfl (s_loadN (vs := ints a1) Try.isAgg22 Try.sizeOf22 rfl (ints_len h_a1) (row_cells (S196.get (k := 2) rfl))) ?_
          obtain ⟨xs207, h208, hd209⟩ := bnd_some hd206
          obtain ⟨hc211, l212⟩ := W_laws_toRound fu G194 a1 h_a1 xs207 h208
          refine AO.c rfl (o_call (vs := [.agg (ints a1).toArray]) rfl Try.call16 hc211) ?_
          obtain ⟨⟨rs213, x214⟩, h215, hd216⟩ := bnd_some hd209
          obtain ⟨_, G225, hc224, p217, c218, T221, rfl, S226, B220, t222, s223⟩ := W_impl_PairsOf fu G194 a0 xs207 l212 rs213 x214 h215
          have S227 := S196.call S226
          refine AO.c rfl (o_call (vs := [.int .i64 a0, .agg (ints xs207).toArray]) rfl Try.call17 hc224) ?_
          refine AO.p rfl (p_move rfl) ?_
          refine AO.p rfl (p_extract rfl rfl) ?_
          refine AO.p rfl (p_extract rfl rfl) ?_
          refine AO.p rfl (p_assign rfl) ?_
          refine AO.p rfl (p_assign rfl) ?_
          refine AO.nil ?_
          refine AX.seq ?_
          obtain ⟨r237, hb238, hd239⟩ := bnd_some hd216
          refine AX.cut (fun t' H' => ∃ (b236 : Bool), b236 = r237 ∧ St [] H H' [oseg p135 (tcells T189), tseg T189] ∧ Am.Sub [(7, .slice p135 rs131.length c136), (9, .int .i64 x185), (62, .bool b236)] t') ?_ ?_
          · skip
            refine AX.region ?_
            refine AO.p rfl (p_move rfl) ?_
            refine AO.p rfl (p_move rfl) ?_
            obtain ⟨b240, h241, hd242⟩ := bnd_some hb238
            refine AO.c rfl (o_call (vs := [.slice p217 rs213.length c218, .slice p114 rs110.length c115]) rfl Try.call18 (W_laws_eqInt64SS fu G225 p217 c218 T221 rs213 t222 (S227.oview (k := 0) rfl B220 (tc_len1 t222 rfl)) (S227.oviewT (k := 1) rfl s223) p114 c115 T118 rs110 t119 (S227.oview (k := 5) rfl B117 (tc_len1 t119 rfl)) (S227.oviewT (k := 6) rfl s120) b240 h241)) ?_
            refine AO.p rfl (p_not rfl) ?_
            refine AO.p rfl (p_move rfl) ?_
            refine AO.cases (d := 58) rfl (fun c244 => ?_) (fun c244 => ?_)
            · have hd245 := bif_t c244 hd242
              refine AO.gn rfl rfl rfl ?_
              refine AO.gn rfl rfl rfl ?_
              refine AO.gn rfl rfl rfl ?_
              refine AO.p rfl (p_pickT rfl rfl) ?_
              refine AO.nil ?_
              have S246 := S227.front 3 rfl
              have S247 := S246.front 3 rfl
              have S248 := S247.keep 2
              exact ⟨true, (some_inj hd245), S248, Sub.cons' rfl rfl (Sub.cons' rfl rfl (Sub.cons' rfl rfl (Sub.nil _)))⟩
            · have hd249 := bif_f c244 hd242
              refine AO.gp rfl rfl rfl (p_move rfl) ?_
              refine AO.gp rfl rfl rfl (p_move rfl) ?_
              refine AO.gp rfl rfl rfl (p_neq rfl rfl) ?_
              refine AO.p rfl (p_pickF rfl rfl) ?_
              refine AO.nil ?_
              have S250 := S227.front 3 rfl
              have S251 := S250.front 3 rfl
              have S252 := S251.keep 2
              exact ⟨(!decide (x214 = x111)), (some_inj hd249), S252, Sub.cons' rfl rfl (Sub.cons' rfl rfl (Sub.cons' rfl rfl (Sub.nil _)))⟩
          · rintro t' G254 ⟨b236, rfl, S253, hsub255⟩
            refine AX.sub hsub255 ?_
            refine AX.cond rfl (fun c256 => ?_) (fun c256 => ?_)
            · have hd257 := bif_t c256 hd239
              refine AX.seq ?_
              refine AX.region ?_
              refine AO.p rfl (p_assign rfl) ?_
              refine AO.nil ?_
              refine AX.ret ?_
              obtain rfl := some_inj hd257
              exact ⟨.inr rfl, _, res1 rfl (rv_tmp rfl), rfl, (flatB_ok rfl), S253.hold⟩
            · have hd258 := bif_f c256 hd239
              refine AX.skip ?_
              refine AX.seq ?_
              refine AX.region ?_
              refine AO.p rfl (p_assign rfl) ?_
              refine AO.nil ?_
              refine AX.seq ?_
              refine AX.region ?_
              refine AO.p rfl (p_move rfl) ?_
              refine AO.p rfl (p_move rfl) ?_
              obtain ⟨x259, h260, hd261⟩ := bnd_some hd258
              refine AO.c rfl (o_call (vs := [.slice p135 rs131.length c136, .int .i64 1]) rfl Try.call20 (by have h' := W_laws_heldInt64SS fu G254 p135 c136 T189 rs186 t190 (by rw [show List.length rs186 = rs131.length from (Eq.trans l192 rfl)]; exact (S253.oview (k := 0) rfl B138 (tc_len1 t190 (Eq.trans l192 rfl)))) (S253.oviewT (k := 1) rfl s191) 1 x259 h260; rw [show List.length rs186 = rs131.length from (Eq.trans l192 rfl)] at h'; exact h')) ?_
              refine AO.p rfl (p_assign rfl) ?_
              refine AO.nil ?_
              refine AX.seq ?_
              refine AX.seq ?_
              refine AX.region ?_
              refine AO.p rfl (p_move rfl) ?_
              refine AO.p rfl (p_lss rfl rfl) ?_
              refine AO.nil ?_
              refine AX.cond rfl (fun c263 => ?_) (fun c263 => ?_)
              · have hd264 := bif_t c263 hd261
                refine AX.seq ?_
                refine AX.region ?_
                refine AO.p rfl (p_assign rfl) ?_
                refine AO.nil ?_
                refine AX.ret ?_
                obtain rfl := some_inj hd264
                exact ⟨.inr rfl, _, res1 rfl (rv_tmp rfl), rfl, (flatB_ok rfl), S253.hold⟩
              · have hd265 := bif_f c263 hd261
                refine AX.skip ?_
                refine AX.seq ?_
                refine AX.seq ?_
                refine AX.region ?_
                refine AO.p rfl (p_move rfl) ?_
                refine AO.p rfl (p_move rfl) ?_
                refine AO.p rfl (p_neq rfl rfl) ?_
                refine AO.nil ?_
                refine AX.cond rfl (fun c266 => ?_) (fun c266 => ?_)
                · have hd267 := bif_t c266 hd265
                  refine AX.seq ?_
                  refine AX.region ?_
                  refine AO.p rfl (p_assign rfl) ?_
                  refine AO.nil ?_
                  refine AX.ret ?_
                  obtain rfl := some_inj hd267
                  exact ⟨.inr rfl, _, res1 rfl (rv_tmp rfl), rfl, (flatB_ok rfl), S253.hold⟩
                · have hd268 := bif_f c266 hd265
                  refine AX.skip ?_
                  refine AX.seq ?_
                  refine AX.region ?_
                  refine AO.p rfl (p_assign rfl) ?_
                  refine AO.nil ?_
                  refine AX.ret ?_
                  obtain rfl := some_inj hd268
                  exact ⟨.inr rfl, _, res1 rfl (rv_tmp rfl), rfl, (flatB_ok rfl), S253.hold⟩

set_option maxHeartbeats 4000000 in
theorem W_laws_FnExactCircleOf (fu : Nat) (H : AHeap) (a0 : Int) (r0 : Bool) (hd : D_laws_FnExactCircleOf fu a0 = some r0) : ACall Try.prog 4 [.int .i64 a0] H (.bool r0) H := by
  refine ACall.bodyP (N := 63) [(0, .int .i64 a0)] Try.func4 rfl rfl rfl rfl ?_
  unfold D_laws_FnExactCircleOf at hd
  have S0 : St [] H H [] := St.nil H
  refine AX.seq ?_
  refine AX.region ?_
  refine AO.p rfl (p_assign rfl) ?_
  refine AO.nil ?_
  refine AX.seq ?_
  refine AX.region ?_
  refine AO.p rfl (p_move rfl) ?_
  obtain ⟨⟨x100, rs101, x102⟩, h103, hd104⟩ := bnd_some hd
  obtain ⟨_, G111, hc110, p105, c106, rfl, S112, B108, a109⟩ := W_spec_CircleOf fu H a0 x100 rs101 x102 h103
  have S113 := S0.call S112
  refine AO.c rfl (o_call (vs := [.int .i64 a0]) rfl Try.call21 hc110) ?_
  refine AO.p rfl (p_move rfl) ?_
  refine AO.p rfl (p_extract rfl rfl) ?_
  refine AO.p rfl (p_extract rfl rfl) ?_
  obtain ⟨G114, i115, hii115, hHG114, S116⟩ := S113.new (.row false ([.int .i64 0, .slice none 0 0]))
  refine AO.c rfl (s_alloc (i := i115) (cs := [.int .i64 0, .slice none 0 0]) Try.zeroValue33 rfl rfl hii115 hHG114) ?_
  obtain ⟨G118, hHG118, S119⟩ := S116.set (k := 0) (i := i115) rfl (.row false ([.int .i64 x100, .slice p105 rs101.length c106]))
  refine AO.s (s_storeAll (vs := [.int .i64 x100, .slice p105 rs101.length c106]) Try.sizeOf33 rfl rfl (ones_list rfl) (S116.get (k := 0) rfl) rfl rfl hHG118) ?_
  refine AO.p rfl (p_assign rfl) ?_
  refine AO.nil ?_
  refine AX.seq ?_
  refine AX.region ?_
  refine AO.p rfl (p_move rfl) ?_
  obtain ⟨⟨x120, rs121, x122⟩, h123, hd124⟩ := bnd_some hd104
  obtain ⟨_, G131, hc130, p125, c126, rfl, S132, B128, a129⟩ := W_impl_CircleOf fu G118 a0 x120 rs121 x122 h123
  have S133 := S119.call S132
  refine AO.c rfl (o_call (vs := [.int .i64 a0]) rfl Try.call22 hc130) ?_
  refine AO.p rfl (p_move rfl) ?_
  refine AO.p rfl (p_extract rfl rfl) ?_
  refine AO.p rfl (p_extract rfl rfl) ?_
  obtain ⟨G134, i135, hii135, hHG134, S136⟩ := S133.new (.row false ([.int .i64 0, .slice none 0 0]))
  refine AO.c rfl (s_alloc (i := i135) (cs := [.int .i64 0, .slice none 0 0]) Try.zeroValue33 rfl rfl hii135 hHG134) ?_
  obtain ⟨G138, hHG138, S139⟩ := S136.set (k := 0) (i := i135) rfl (.row false ([.int .i64 x120, .slice p125 rs121.length c126]))
  refine AO.s (s_storeAll (vs := [.int .i64 x120, .slice p125 rs121.length c126]) Try.sizeOf33 rfl rfl (ones_list rfl) (S136.get (k := 0) rfl) rfl rfl hHG138) ?_
  refine AO.p rfl (p_assign rfl) ?_
  refine AO.nil ?_
  refine AX.seq ?_
  obtain ⟨r152, hb153, hd154⟩ := bnd_some hd124
  refine AX.cut (fun t' H' => ∃ (b151 : Bool), b151 = r152 ∧ St [] H H' [[(i115, AObj.row false ([.int .i64 x100, .slice p105 rs101.length c106]))], oseg p105 (ints rs101.flatten), [(i135, AObj.row false ([.int .i64 x120, .slice p125 rs121.length c126]))], oseg p125 (ints rs121.flatten)] ∧ Am.Sub [(0, .int .i64 a0), (3, .pointer (some ⟨i115, 0, none⟩)), (4, .int .i64 x102), (5, .pointer (some ⟨i135, 0, none⟩)), (29, .bool b151)] t') ?_ ?_
  · skip
    refine AX.region ?_
    refine AO.c rfl (s_loadN (vs := [.int .i64 x120, .slice p125 rs121.length c126]) Try.isAgg33 Try.sizeOf33 rfl rfl (row_cells (S139.get (k := 0) rfl))) ?_
    refine AO.c rfl (s_loadN (vs := [.int .i64 x100, .slice p105 rs101.length c106]) Try.isAgg33 Try.sizeOf33 rfl rfl (row_cells (S139.get (k := 2) rfl))) ?_
    obtain ⟨b155, h156, hd157⟩ := bnd_some hb153
    refine AO.c rfl (o_call (vs := [.agg [.int .i64 x120, .slice p125 rs121.length c126].toArray, .agg [.int .i64 x100, .slice p105 rs101.length c106].toArray]) rfl Try.call23 (W_laws_eqSchedule fu G138 x120 p125 c126 rs121 a129 (S139.oview (k := 1) rfl B128 (flat_len1 a129 rfl)) x100 p105 c106 rs101 a109 (S139.oview (k := 3) rfl B108 (flat_len1 a109 rfl)) b155 h156)) ?_
    refine AO.p rfl (p_not rfl) ?_
    refine AO.p rfl (p_move rfl) ?_
    refine AO.cases (d := 25) rfl (fun c159 => ?_) (fun c159 => ?_)
    · have hd160 := bif_t c159 hd157
      refine AO.gn rfl rfl rfl ?_
      refine AO.gn rfl rfl rfl ?_
      refine AO.gn rfl rfl rfl ?_
      refine AO.p rfl (p_pickT rfl rfl) ?_
      refine AO.nil ?_
      have S161 := S139.front 1 rfl
      have S162 := S161.front 1 rfl
      have S163 := S162.front 3 rfl
      have S164 := S163.front 3 rfl
      exact ⟨true, (some_inj hd160), S164, Sub.cons' rfl rfl (Sub.cons' rfl rfl (Sub.cons' rfl rfl (Sub.cons' rfl rfl (Sub.cons' rfl rfl (Sub.nil _)))))⟩
    · have hd165 := bif_f c159 hd157
      refine AO.gp rfl rfl rfl (p_move rfl) ?_
      refine AO.gp rfl rfl rfl (p_move rfl) ?_
      refine AO.gp rfl rfl rfl (p_neq rfl rfl) ?_
      refine AO.p rfl (p_pickF rfl rfl) ?_
      refine AO.nil ?_
      have S166 := S139.front 1 rfl
      have S167 := S166.front 1 rfl
      have S168 := S167.front 3 rfl
      have S169 := S168.front 3 rfl
      exact ⟨(!decide (x122 = x102)), (some_inj hd165), S169, Sub.cons' rfl rfl (Sub.cons' rfl rfl (Sub.cons' rfl rfl (Sub.cons' rfl rfl (Sub.cons' rfl rfl (Sub.nil _)))))⟩
  · rintro t' G171 ⟨b151, rfl, S170, hsub172⟩
    refine AX.sub hsub172 ?_
    refine AX.cond rfl (fun c173 => ?_) (fun c173 => ?_)
    · have hd174 := bif_t c173 hd154
      refine AX.seq ?_
      refine AX.region ?_
      refine AO.p rfl (p_assign rfl) ?_
      refine AO.nil ?_
      refine AX.ret ?_
      obtain rfl := some_inj hd174
      exact ⟨.inr rfl, _, res1 rfl (rv_tmp rfl), rfl, (flatB_ok rfl), S170.hold⟩
    · have hd175 := bif_f c173 hd154
      refine AX.skip ?_
      refine AX.seq ?_
      refine AX.region ?_
      refine AO.p rfl (p_assign rfl) ?_
      refine AO.nil ?_
      refine AX.seq ?_
      refine AX.region ?_
      refine AO.c rfl (s_loadN (vs := [.int .i64 x120, .slice p125 rs121.length c126]) Try.isAgg33 Try.sizeOf33 rfl rfl (row_cells (S170.get (k := 2) rfl))) ?_
      refine AO.p rfl (p_move rfl) ?_
      have S176 := S170.front 3 rfl
      obtain ⟨⟨x177, rs178⟩, h179, hd180⟩ := bnd_some hd175
      obtain ⟨_, G184, hc183, rfl, S185, l181, a182⟩ := W_laws_markSchedule fu G171 x120 p125 c126 rs121 a129 B128 1 (S176.onodup (k := 0) rfl) (S176.omem (k := 0) rfl) x177 rs178 h179
      have S186 := St.callM (A := [oseg p125 (ints rs121.flatten)]) S176 S185 (by simp)
      refine AO.c rfl (o_call (vs := [.agg [.int .i64 x120, .slice p125 rs121.length c126].toArray, .int .i64 1]) rfl Try.call24 hc183) ?_
      refine AO.p rfl (p_assign rfl) ?_
      refine AO.nil ?_
      refine AX.seq ?_
      refine AX.region ?_
      refine AO.p rfl (p_assign rfl) ?_
      refine AO.nil ?_
      refine AX.seq ?_
      refine AX.region ?_
      refine AO.c rfl (s_loadN (vs := [.int .i64 x120, .slice p125 rs121.length c126]) Try.isAgg33 Try.sizeOf33 rfl rfl (row_cells (S186.get (k := 3) rfl))) ?_
      refine AO.p rfl (p_move rfl) ?_
      obtain ⟨x187, h188, hd189⟩ := bnd_some hd180
      refine AO.c rfl (o_call (vs := [.agg [.int .i64 x120, .slice p125 rs121.length c126].toArray, .int .i64 1]) rfl Try.call25 (by have h' := W_laws_heldSchedule fu G184 x120 p125 c126 rs178 a182 (by rw [show List.length rs178 = rs121.length from l181]; exact (S186.oview (k := 0) rfl B128 (flat_len1 a182 l181))) 1 x187 h188; rw [show List.length rs178 = rs121.length from l181] at h'; exact h')) ?_
      refine AO.p rfl (p_assign rfl) ?_
      refine AO.nil ?_
      refine AX.seq ?_
      refine AX.seq ?_
      refine AX.region ?_
      refine AO.p rfl (p_move rfl) ?_
      refine AO.p rfl (p_lss rfl rfl) ?_
      refine AO.nil ?_
      refine AX.cond rfl (fun c191 => ?_) (fun c191 => ?_)
      · have hd192 := bif_t c191 hd189
        refine AX.seq ?_
        refine AX.region ?_
        refine AO.p rfl (p_assign rfl) ?_
        refine AO.nil ?_
        refine AX.ret ?_
        obtain rfl := some_inj hd192
        exact ⟨.inr rfl, _, res1 rfl (rv_tmp rfl), rfl, (flatB_ok rfl), S186.hold⟩
      · have hd193 := bif_f c191 hd189
        refine AX.skip ?_
        refine AX.seq ?_
        refine AX.seq ?_
        refine AX.region ?_
        refine AO.p rfl (p_move rfl) ?_
        refine AO.p rfl (p_move rfl) ?_
        refine AO.p rfl (p_neq rfl rfl) ?_
        refine AO.nil ?_
        refine AX.cond rfl (fun c194 => ?_) (fun c194 => ?_)
        · have hd195 := bif_t c194 hd193
          refine AX.seq ?_
          refine AX.region ?_
          refine AO.p rfl (p_assign rfl) ?_
          refine AO.nil ?_
          refine AX.ret ?_
          obtain rfl := some_inj hd195
          exact ⟨.inr rfl, _, res1 rfl (rv_tmp rfl), rfl, (flatB_ok rfl), S186.hold⟩
        · have hd196 := bif_f c194 hd193
          refine AX.skip ?_
          refine AX.seq ?_
          refine AX.region ?_
          refine AO.p rfl (p_move rfl) ?_
          obtain ⟨⟨x197, rs198, x199⟩, h200, hd201⟩ := bnd_some hd196
          obtain ⟨_, G208, hc207, p202, c203, rfl, S209, B205, a206⟩ := W_impl_CircleOf fu G184 a0 x197 rs198 x199 h200
          have S210 := S186.call S209
          refine AO.c rfl (o_call (vs := [.int .i64 a0]) rfl Try.call22 hc207) ?_
          refine AO.p rfl (p_move rfl) ?_
          refine AO.p rfl (p_extract rfl rfl) ?_
          refine AO.p rfl (p_extract rfl rfl) ?_
          obtain ⟨G211, i212, hii212, hHG211, S213⟩ := S210.new (.row false ([.int .i64 0, .slice none 0 0]))
          refine AO.c rfl (s_alloc (i := i212) (cs := [.int .i64 0, .slice none 0 0]) Try.zeroValue33 rfl rfl hii212 hHG211) ?_
          obtain ⟨G215, hHG215, S216⟩ := S213.set (k := 0) (i := i212) rfl (.row false ([.int .i64 x197, .slice p202 rs198.length c203]))
          refine AO.s (s_storeAll (vs := [.int .i64 x197, .slice p202 rs198.length c203]) Try.sizeOf33 rfl rfl (ones_list rfl) (S213.get (k := 0) rfl) rfl rfl hHG215) ?_
          refine AO.p rfl (p_assign rfl) ?_
          refine AO.nil ?_
          refine AX.seq ?_
          obtain ⟨r227, hb228, hd229⟩ := bnd_some hd201
          refine AX.cut (fun t' H' => ∃ (b226 : Bool), b226 = r227 ∧ St [] H H' [[(i135, AObj.row false ([.int .i64 x120, .slice p125 rs121.length c126]))], oseg p125 (ints rs178.flatten)] ∧ Am.Sub [(5, .pointer (some ⟨i135, 0, none⟩)), (7, .int .i64 x177), (54, .bool b226)] t') ?_ ?_
          · skip
            refine AX.region ?_
            refine AO.c rfl (s_loadN (vs := [.int .i64 x197, .slice p202 rs198.length c203]) Try.isAgg33 Try.sizeOf33 rfl rfl (row_cells (S216.get (k := 0) rfl))) ?_
            refine AO.c rfl (s_loadN (vs := [.int .i64 x100, .slice p105 rs101.length c106]) Try.isAgg33 Try.sizeOf33 rfl rfl (row_cells (S216.get (k := 3) rfl))) ?_
            obtain ⟨b230, h231, hd232⟩ := bnd_some hb228
            refine AO.c rfl (o_call (vs := [.agg [.int .i64 x197, .slice p202 rs198.length c203].toArray, .agg [.int .i64 x100, .slice p105 rs101.length c106].toArray]) rfl Try.call23 (W_laws_eqSchedule fu G215 x197 p202 c203 rs198 a206 (S216.oview (k := 1) rfl B205 (flat_len1 a206 rfl)) x100 p105 c106 rs101 a109 (S216.oview (k := 4) rfl B108 (flat_len1 a109 rfl)) b230 h231)) ?_
            refine AO.p rfl (p_not rfl) ?_
            refine AO.p rfl (p_move rfl) ?_
            refine AO.cases (d := 50) rfl (fun c234 => ?_) (fun c234 => ?_)
            · have hd235 := bif_t c234 hd232
              refine AO.gn rfl rfl rfl ?_
              refine AO.gn rfl rfl rfl ?_
              refine AO.gn rfl rfl rfl ?_
              refine AO.p rfl (p_pickT rfl rfl) ?_
              refine AO.nil ?_
              have S236 := S216.front 2 rfl
              have S237 := S236.front 5 rfl
              have S238 := S237.keep 2
              exact ⟨true, (some_inj hd235), S238, Sub.cons' rfl rfl (Sub.cons' rfl rfl (Sub.cons' rfl rfl (Sub.nil _)))⟩
            · have hd239 := bif_f c234 hd232
              refine AO.gp rfl rfl rfl (p_move rfl) ?_
              refine AO.gp rfl rfl rfl (p_move rfl) ?_
              refine AO.gp rfl rfl rfl (p_neq rfl rfl) ?_
              refine AO.p rfl (p_pickF rfl rfl) ?_
              refine AO.nil ?_
              have S240 := S216.front 2 rfl
              have S241 := S240.front 5 rfl
              have S242 := S241.keep 2
              exact ⟨(!decide (x199 = x102)), (some_inj hd239), S242, Sub.cons' rfl rfl (Sub.cons' rfl rfl (Sub.cons' rfl rfl (Sub.nil _)))⟩
          · rintro t' G244 ⟨b226, rfl, S243, hsub245⟩
            refine AX.sub hsub245 ?_
            refine AX.cond rfl (fun c246 => ?_) (fun c246 => ?_)
            · have hd247 := bif_t c246 hd229
              refine AX.seq ?_
              refine AX.region ?_
              refine AO.p rfl (p_assign rfl) ?_
              refine AO.nil ?_
              refine AX.ret ?_
              obtain rfl := some_inj hd247
              exact ⟨.inr rfl, _, res1 rfl (rv_tmp rfl), rfl, (flatB_ok rfl), S243.hold⟩
            · have hd248 := bif_f c246 hd229
              refine AX.skip ?_
              refine AX.seq ?_
              refine AX.region ?_
              refine AO.p rfl (p_assign rfl) ?_
              refine AO.nil ?_
              refine AX.seq ?_
              refine AX.region ?_
              refine AO.c rfl (s_loadN (vs := [.int .i64 x120, .slice p125 rs121.length c126]) Try.isAgg33 Try.sizeOf33 rfl rfl (row_cells (S243.get (k := 0) rfl))) ?_
              refine AO.p rfl (p_move rfl) ?_
              obtain ⟨x249, h250, hd251⟩ := bnd_some hd248
              refine AO.c rfl (o_call (vs := [.agg [.int .i64 x120, .slice p125 rs121.length c126].toArray, .int .i64 1]) rfl Try.call25 (by have h' := W_laws_heldSchedule fu G244 x120 p125 c126 rs178 a182 (by rw [show List.length rs178 = rs121.length from l181]; exact (S243.oview (k := 1) rfl B128 (flat_len1 a182 l181))) 1 x249 h250; rw [show List.length rs178 = rs121.length from l181] at h'; exact h')) ?_
              refine AO.p rfl (p_assign rfl) ?_
              refine AO.nil ?_
              refine AX.seq ?_
              refine AX.seq ?_
              refine AX.region ?_
              refine AO.p rfl (p_move rfl) ?_
              refine AO.p rfl (p_lss rfl rfl) ?_
              refine AO.nil ?_
              refine AX.cond rfl (fun c253 => ?_) (fun c253 => ?_)
              · have hd254 := bif_t c253 hd251
                refine AX.seq ?_
                refine AX.region ?_
                refine AO.p rfl (p_assign rfl) ?_
                refine AO.nil ?_
                refine AX.ret ?_
                obtain rfl := some_inj hd254
                exact ⟨.inr rfl, _, res1 rfl (rv_tmp rfl), rfl, (flatB_ok rfl), S243.hold⟩
              · have hd255 := bif_f c253 hd251
                refine AX.skip ?_
                refine AX.seq ?_
                refine AX.seq ?_
                refine AX.region ?_
                refine AO.p rfl (p_move rfl) ?_
                refine AO.p rfl (p_move rfl) ?_
                refine AO.p rfl (p_neq rfl rfl) ?_
                refine AO.nil ?_
                refine AX.cond rfl (fun c256 => ?_) (fun c256 => ?_)
                · have hd257 := bif_t c256 hd255
                  refine AX.seq ?_
                  refine AX.region ?_
                  refine AO.p rfl (p_assign rfl) ?_
                  refine AO.nil ?_
                  refine AX.ret ?_
                  obtain rfl := some_inj hd257
                  exact ⟨.inr rfl, _, res1 rfl (rv_tmp rfl), rfl, (flatB_ok rfl), S243.hold⟩
                · have hd258 := bif_f c256 hd255
                  refine AX.skip ?_
                  refine AX.seq ?_
                  refine AX.region ?_
                  refine AO.p rfl (p_assign rfl) ?_
                  refine AO.nil ?_
                  refine AX.ret ?_
                  obtain rfl := some_inj hd258
                  exact ⟨.inr rfl, _, res1 rfl (rv_tmp rfl), rfl, (flatB_ok rfl), S243.hold⟩

set_option maxHeartbeats 4000000 in
theorem W_laws_FnExactRoundOf (fu : Nat) (H : AHeap) (a0 : Int) (p_a1 : Option Addr) (c_a1 : Nat) (T_a1 : Tb) (a1 : List (List Int)) (t_a1 : trows T_a1 = a1) (v_a1 : Vw H p_a1 a1.length c_a1 (tcells T_a1)) (w_a1 : TVw H T_a1) (r0 : Bool) (hd : D_laws_FnExactRoundOf fu a0 a1 = some r0) : ACall Try.prog 6 [.int .i64 a0, .slice p_a1 a1.length c_a1] H (.bool r0) H := by
  refine ACall.bodyP (N := 45) [(0, .int .i64 a0), (1, .slice p_a1 a1.length c_a1)] Try.func6 rfl rfl rfl rfl ?_
  unfold D_laws_FnExactRoundOf at hd
  have S0 : St [] H H [] := St.nil H
  refine AX.seq ?_
  refine AX.region ?_
  refine AO.p rfl (p_assign rfl) ?_
  refine AO.nil ?_
  refine AX.seq ?_
  refine AX.region ?_
  refine AO.p rfl (p_assign rfl) ?_
  refine AO.nil ?_
  refine AX.seq ?_
  refine AX.region ?_
  refine AO.p rfl (p_move rfl) ?_
  refine AO.p rfl (p_move rfl) ?_
  obtain ⟨x100, h101, hd102⟩ := bnd_some hd
  refine AO.c rfl (o_call (vs := [.slice p_a1 a1.length c_a1, .int .i64 1048576]) rfl Try.call31 (W_laws_szInt64SS fu H p_a1 c_a1 T_a1 a1 t_a1 (S0.view v_a1) (S0.tview w_a1) 1048576 x100 h101)) ?_
  refine AO.p rfl (p_assign rfl) ?_
  refine AO.nil ?_
  refine AX.seq ?_
  refine AX.seq ?_
  refine AX.region ?_
  refine AO.p rfl (p_move rfl) ?_
  refine AO.p rfl (p_lss rfl rfl) ?_
  refine AO.nil ?_
  refine AX.cond rfl (fun c104 => ?_) (fun c104 => ?_)
  · have hd105 := bif_t c104 hd102
    refine AX.seq ?_
    refine AX.region ?_
    refine AO.p rfl (p_assign rfl) ?_
    refine AO.nil ?_
    refine AX.ret ?_
    obtain rfl := some_inj hd105
    exact ⟨.inr rfl, _, res1 rfl (rv_tmp rfl), rfl, (flatB_ok rfl), S0.hold⟩
  · have hd106 := bif_f c104 hd102
    refine AX.skip ?_
    refine AX.seq ?_
    refine AX.region ?_
    refine AO.p rfl (p_move rfl) ?_
    refine AO.p rfl (p_move rfl) ?_
    obtain ⟨rs107, h108, hd109⟩ := bnd_some hd106
    obtain ⟨_, G118, hc117, p110, c111, T114, rfl, S119, B113, t115, s116⟩ := W_laws_toInt64SS fu H p_a1 c_a1 T_a1 a1 t_a1 (S0.view v_a1) (S0.tview w_a1) rs107 h108
    have S120 := S0.call S119
    refine AO.c rfl (o_call (vs := [.slice p_a1 a1.length c_a1]) rfl Try.call33 hc117) ?_
    obtain ⟨⟨xs121, x122⟩, h123, hd124⟩ := bnd_some hd109
    obtain ⟨hc126, l127⟩ := W_spec_RoundOf fu G118 a0 p110 c111 T114 rs107 t115 (S120.oview (k := 0) rfl B113 (tc_len1 t115 rfl)) (S120.oviewT (k := 1) rfl s116) xs121 x122 h123
    refine AO.c rfl (o_call (vs := [.int .i64 a0, .slice p110 rs107.length c111]) rfl Try.call32 hc126) ?_
    refine AO.p rfl (p_move rfl) ?_
    refine AO.p rfl (p_extract rfl rfl) ?_
    refine AO.p rfl (p_extract rfl rfl) ?_
    obtain ⟨G128, i129, hii129, hHG128, S130⟩ := S120.new (.row false (ints (List.replicate 14 0)))
    refine AO.c rfl (s_alloc (i := i129) (cs := ints (List.replicate 14 0)) Try.zeroValue26 rfl rfl hii129 hHG128) ?_
    obtain ⟨G132, hHG132, S133⟩ := S130.set (k := 0) (i := i129) rfl (.row false (ints xs121))
    refine AO.s (s_storeAll (vs := ints xs121) Try.sizeOf26 rfl rfl ints_one (S130.get (k := 0) rfl) (ints_len l127) (ints_len len_rep) hHG132) ?_
    refine AO.p rfl (p_assign rfl) ?_
    refine AO.nil ?_
    refine AX.seq ?_
    refine AX.region ?_
    refine AO.p rfl (p_move rfl) ?_
    obtain ⟨rs134, h135, hd136⟩ := bnd_some hd124
    obtain ⟨_, G145, hc144, p137, c138, T141, rfl, S146, B140, t142, s143⟩ := W_laws_toInt64SS fu G132 p_a1 c_a1 T_a1 a1 t_a1 (S133.view v_a1) (S133.tview w_a1) rs134 h135
    have S147 := S133.call S146
    refine AO.c rfl (o_call (vs := [.slice p_a1 a1.length c_a1]) rfl Try.call33 hc144) ?_
    refine AO.p rfl (p_assign rfl) ?_
    refine AO.nil ?_
    refine AX.seq ?_
    refine AX.region ?_
    refine AO.p rfl (p_move rfl) ?_
    refine AO.p rfl (p_move rfl) ?_
    obtain ⟨⟨xs148, x149⟩, h150, hd151⟩ := bnd_some hd136
    obtain ⟨hc153, l154⟩ := W_impl_RoundOf fu G145 a0 p137 c138 T141 rs134 t142 (S147.oview (k := 0) rfl B140 (tc_len1 t142 rfl)) (S147.oviewT (k := 1) rfl s143) xs148 x149 h150
    refine AO.c rfl (o_call (vs := [.int .i64 a0, .slice p137 rs134.length c138]) rfl Try.call34 hc153) ?_
    refine AO.p rfl (p_move rfl) ?_
    refine AO.p rfl (p_extract rfl rfl) ?_
    refine AO.p rfl (p_extract rfl rfl) ?_
    obtain ⟨G155, i156, hii156, hHG155, S157⟩ := S147.new (.row false (ints (List.replicate 14 0)))
    refine AO.c rfl (s_alloc (i := i156) (cs := ints (List.replicate 14 0)) Try.zeroValue26 rfl rfl hii156 hHG155) ?_
    obtain ⟨G159, hHG159, S160⟩ := S157.set (k := 0) (i := i156) rfl (.row false (ints xs148))
    refine AO.s (s_storeAll (vs := ints xs148) Try.sizeOf26 rfl rfl ints_one (S157.get (k := 0) rfl) (ints_len l154) (ints_len len_rep) hHG159) ?_
    refine AO.p rfl (p_assign rfl) ?_
    refine AO.nil ?_
    refine AX.seq ?_
    obtain ⟨r170, hb171, hd172⟩ := bnd_some hd151
    refine AX.cut (fun t' H' => ∃ (b169 : Bool), b169 = r170 ∧ St [] H H' [oseg p137 (tcells T141), tseg T141] ∧ Am.Sub [(1, .slice p_a1 a1.length c_a1), (8, .slice p137 rs134.length c138), (39, .bool b169)] t') ?_ ?_
    · skip
      refine AX.region ?_
      refine AO.c rfl (s_loadN (vs := ints xs148) Try.isAgg26 Try.sizeOf26 rfl (ints_len l154) (row_cells (S160.get (k := 0) rfl))) ?_
      refine AO.c rfl (s_loadN (vs := ints xs121) Try.isAgg26 Try.sizeOf26 rfl (ints_len l127) (row_cells (S160.get (k := 3) rfl))) ?_
      obtain ⟨b173, h174, hd175⟩ := bnd_some hb171
      refine AO.c rfl (o_call (vs := [.agg (ints xs148).toArray, .agg (ints xs121).toArray]) rfl Try.call35 (W_laws_eqRound fu G159 xs148 l154 xs121 l127 b173 h174)) ?_
      refine AO.p rfl (p_not rfl) ?_
      refine AO.p rfl (p_move rfl) ?_
      refine AO.cases (d := 35) rfl (fun c177 => ?_) (fun c177 => ?_)
      · have hd178 := bif_t c177 hd175
        refine AO.gn rfl rfl rfl ?_
        refine AO.gn rfl rfl rfl ?_
        refine AO.gn rfl rfl rfl ?_
        refine AO.p rfl (p_pickT rfl rfl) ?_
        refine AO.nil ?_
        have S179 := S160.front 2 rfl
        have S180 := S179.front 2 rfl
        have S181 := S180.keep 2
        exact ⟨true, (some_inj hd178), S181, Sub.cons' rfl rfl (Sub.cons' rfl rfl (Sub.cons' rfl rfl (Sub.nil _)))⟩
      · have hd182 := bif_f c177 hd175
        refine AO.gp rfl rfl rfl (p_move rfl) ?_
        refine AO.gp rfl rfl rfl (p_move rfl) ?_
        refine AO.gp rfl rfl rfl (p_neq rfl rfl) ?_
        refine AO.p rfl (p_pickF rfl rfl) ?_
        refine AO.nil ?_
        have S183 := S160.front 2 rfl
        have S184 := S183.front 2 rfl
        have S185 := S184.keep 2
        exact ⟨(!decide (x149 = x122)), (some_inj hd182), S185, Sub.cons' rfl rfl (Sub.cons' rfl rfl (Sub.cons' rfl rfl (Sub.nil _)))⟩
    · rintro t' G187 ⟨b169, rfl, S186, hsub188⟩
      refine AX.sub hsub188 ?_
      refine AX.cond rfl (fun c189 => ?_) (fun c189 => ?_)
      · have hd190 := bif_t c189 hd172
        refine AX.seq ?_
        refine AX.region ?_
        refine AO.p rfl (p_assign rfl) ?_
        refine AO.nil ?_
        refine AX.ret ?_
        obtain rfl := some_inj hd190
        exact ⟨.inr rfl, _, res1 rfl (rv_tmp rfl), rfl, (flatB_ok rfl), S186.hold⟩
      · have hd191 := bif_f c189 hd172
        refine AX.skip ?_
        refine AX.seq ?_
        refine AX.seq ?_
        refine AX.region ?_
        refine AO.p rfl (p_move rfl) ?_
        refine AO.p rfl (p_move rfl) ?_
        obtain ⟨rs192, h193, hd194⟩ := bnd_some hd191
        obtain ⟨_, G203, hc202, p195, c196, T199, rfl, S204, B198, t200, s201⟩ := W_laws_toInt64SS fu G187 p_a1 c_a1 T_a1 a1 t_a1 (S186.view v_a1) (S186.tview w_a1) rs192 h193
        have S205 := S186.call S204
        refine AO.c rfl (o_call (vs := [.slice p_a1 a1.length c_a1]) rfl Try.call33 hc202) ?_
        obtain ⟨b206, h207, hd208⟩ := bnd_some hd194
        refine AO.c rfl (o_call (vs := [.slice p137 rs134.length c138, .slice p195 rs192.length c196]) rfl Try.call18 (W_laws_eqInt64SS fu G203 p137 c138 T141 rs134 t142 (S205.oview (k := 2) rfl B140 (tc_len1 t142 rfl)) (S205.oviewT (k := 3) rfl s143) p195 c196 T199 rs192 t200 (S205.oview (k := 0) rfl B198 (tc_len1 t200 rfl)) (S205.oviewT (k := 1) rfl s201) b206 h207)) ?_
        refine AO.p rfl (p_not rfl) ?_
        refine AO.nil ?_
        refine AX.cond rfl (fun c210 => ?_) (fun c210 => ?_)
        · have hd211 := bif_t c210 hd208
          refine AX.seq ?_
          refine AX.region ?_
          refine AO.p rfl (p_assign rfl) ?_
          refine AO.nil ?_
          refine AX.ret ?_
          obtain rfl := some_inj hd211
          exact ⟨.inr rfl, _, res1 rfl (rv_tmp rfl), rfl, (flatB_ok rfl), S205.hold⟩
        · have hd212 := bif_f c210 hd208
          refine AX.skip ?_
          refine AX.seq ?_
          refine AX.region ?_
          refine AO.p rfl (p_assign rfl) ?_
          refine AO.nil ?_
          refine AX.ret ?_
          obtain rfl := some_inj hd212
          exact ⟨.inr rfl, _, res1 rfl (rv_tmp rfl), rfl, (flatB_ok rfl), S205.hold⟩

set_option maxHeartbeats 4000000 in
theorem W_laws_FnExactIsSquare (fu : Nat) (H : AHeap) (a0_0 : Int) (p_a0_1 : Option Addr) (c_a0_1 : Nat) (T_a0_1 : Tb) (a0_1 : List (List Int)) (t_a0_1 : trows T_a0_1 = a0_1) (v_a0_1 : Vw H p_a0_1 a0_1.length c_a0_1 (tcells T_a0_1)) (w_a0_1 : TVw H T_a0_1) (r0 : Bool) (hd : D_laws_FnExactIsSquare fu a0_0 a0_1 = some r0) : ACall Try.prog 5 [.agg [.int .i64 a0_0, .slice p_a0_1 a0_1.length c_a0_1].toArray] H (.bool r0) H := by
  refine ACall.bodyP (N := 27) [(0, .agg [.int .i64 a0_0, .slice p_a0_1 a0_1.length c_a0_1].toArray)] Try.func5 rfl rfl rfl rfl ?_
  unfold D_laws_FnExactIsSquare at hd
  have S0 : St [] H H [] := St.nil H
  refine AX.seq ?_
  refine AX.region ?_
  obtain ⟨G100, i101, hii101, hHG100, S102⟩ := S0.new (.row false ([.int .i64 a0_0, .slice p_a0_1 a0_1.length c_a0_1]))
  refine AO.c rfl (s_box (i := i101) (cs := [.int .i64 a0_0, .slice p_a0_1 a0_1.length c_a0_1]) rfl hii101 rfl hHG100) ?_
  refine AO.p rfl (p_assign rfl) ?_
  refine AO.nil ?_
  refine AX.seq ?_
  refine AX.region ?_
  refine AO.p rfl (p_assign rfl) ?_
  refine AO.nil ?_
  refine AX.seq ?_
  refine AX.region ?_
  refine AO.c rfl (s_loadN (vs := [.int .i64 a0_0, .slice p_a0_1 a0_1.length c_a0_1]) Try.isAgg40 Try.sizeOf40 rfl rfl (row_cells (S102.get (k := 0) rfl))) ?_
  refine AO.p rfl (p_move rfl) ?_
  obtain ⟨x104, h105, hd106⟩ := bnd_some hd
  refine AO.c rfl (o_call (vs := [.agg [.int .i64 a0_0, .slice p_a0_1 a0_1.length c_a0_1].toArray, .int .i64 1048576]) rfl Try.call26 (W_laws_szSquare fu G100 a0_0 p_a0_1 c_a0_1 T_a0_1 a0_1 t_a0_1 (S102.view v_a0_1) (S102.tview w_a0_1) 1048576 x104 h105)) ?_
  refine AO.p rfl (p_assign rfl) ?_
  refine AO.nil ?_
  refine AX.seq ?_
  refine AX.seq ?_
  refine AX.region ?_
  refine AO.p rfl (p_move rfl) ?_
  refine AO.p rfl (p_lss rfl rfl) ?_
  refine AO.nil ?_
  refine AX.cond rfl (fun c108 => ?_) (fun c108 => ?_)
  · have hd109 := bif_t c108 hd106
    refine AX.seq ?_
    refine AX.region ?_
    refine AO.p rfl (p_assign rfl) ?_
    refine AO.nil ?_
    refine AX.ret ?_
    obtain rfl := some_inj hd109
    exact ⟨.inr rfl, _, res1 rfl (rv_tmp rfl), rfl, (flatB_ok rfl), S102.hold⟩
  · have hd110 := bif_f c108 hd106
    refine AX.skip ?_
    refine AX.seq ?_
    refine AX.region ?_
    refine AO.c rfl (s_loadN (vs := [.int .i64 a0_0, .slice p_a0_1 a0_1.length c_a0_1]) Try.isAgg40 Try.sizeOf40 rfl rfl (row_cells (S102.get (k := 0) rfl))) ?_
    obtain ⟨⟨x111, rs112⟩, h113, hd114⟩ := bnd_some hd110
    obtain ⟨_, G123, hc122, p115, c116, T119, rfl, S124, B118, t120, s121⟩ := W_laws_toSquare fu G100 a0_0 p_a0_1 c_a0_1 T_a0_1 a0_1 t_a0_1 (S102.view v_a0_1) (S102.tview w_a0_1) x111 rs112 h113
    have S125 := S102.call S124
    refine AO.c rfl (o_call (vs := [.agg [.int .i64 a0_0, .slice p_a0_1 a0_1.length c_a0_1].toArray]) rfl Try.call28 hc122) ?_
    obtain ⟨b126, h127, hd128⟩ := bnd_some hd114
    refine AO.c rfl (o_call (vs := [.agg [.int .i64 x111, .slice p115 rs112.length c116].toArray]) rfl Try.call27 (W_spec_IsSquare fu G123 x111 p115 c116 T119 rs112 t120 (S125.oview (k := 0) rfl B118 (tc_len1 t120 rfl)) (S125.oviewT (k := 1) rfl s121) b126 h127)) ?_
    refine AO.p rfl (p_assign rfl) ?_
    refine AO.nil ?_
    refine AX.seq ?_
    refine AX.region ?_
    refine AO.c rfl (s_loadN (vs := [.int .i64 a0_0, .slice p_a0_1 a0_1.length c_a0_1]) Try.isAgg40 Try.sizeOf40 rfl rfl (row_cells (S125.get (k := 2) rfl))) ?_
    obtain ⟨⟨x130, rs131⟩, h132, hd133⟩ := bnd_some hd128
    obtain ⟨_, G142, hc141, p134, c135, T138, rfl, S143, B137, t139, s140⟩ := W_laws_toSquare fu G123 a0_0 p_a0_1 c_a0_1 T_a0_1 a0_1 t_a0_1 (S125.view v_a0_1) (S125.tview w_a0_1) x130 rs131 h132
    have S144 := S125.call S143
    refine AO.c rfl (o_call (vs := [.agg [.int .i64 a0_0, .slice p_a0_1 a0_1.length c_a0_1].toArray]) rfl Try.call28 hc141) ?_
    obtain ⟨G145, i146, hii146, hHG145, S147⟩ := S144.new (.row false ([.int .i64 0, .slice none 0 0]))
    refine AO.c rfl (s_alloc (i := i146) (cs := [.int .i64 0, .slice none 0 0]) Try.zeroValue43 rfl rfl hii146 hHG145) ?_
    obtain ⟨G149, hHG149, S150⟩ := S147.set (k := 0) (i := i146) rfl (.row false ([.int .i64 x130, .slice p134 rs131.length c135]))
    refine AO.s (s_storeAll (vs := [.int .i64 x130, .slice p134 rs131.length c135]) Try.sizeOf43 rfl rfl (ones_list rfl) (S147.get (k := 0) rfl) rfl rfl hHG149) ?_
    refine AO.nil ?_
    refine AX.seq ?_
    refine AX.region ?_
    refine AO.c rfl (s_loadN (vs := [.int .i64 x130, .slice p134 rs131.length c135]) Try.isAgg43 Try.sizeOf43 rfl rfl (row_cells (S150.get (k := 0) rfl))) ?_
    obtain ⟨b151, h152, hd153⟩ := bnd_some hd133
    refine AO.c rfl (o_call (vs := [.agg [.int .i64 x130, .slice p134 rs131.length c135].toArray]) rfl Try.call29 (W_impl_IsSquare fu G149 x130 p134 c135 T138 rs131 t139 (S150.oview (k := 1) rfl B137 (tc_len1 t139 rfl)) (S150.oviewT (k := 2) rfl s140) b151 h152)) ?_
    refine AO.p rfl (p_assign rfl) ?_
    refine AO.nil ?_
    refine AX.seq ?_
    refine AX.seq ?_
    refine AX.region ?_
    refine AO.p rfl (p_move rfl) ?_
    refine AO.p rfl (p_move rfl) ?_
    refine AO.p rfl (p_bneq Try.underlying4 rfl rfl) ?_
    refine AO.nil ?_
    refine AX.cond rfl (fun c155 => ?_) (fun c155 => ?_)
    · have hd156 := bif_t c155 hd153
      refine AX.seq ?_
      refine AX.region ?_
      refine AO.p rfl (p_assign rfl) ?_
      refine AO.nil ?_
      refine AX.ret ?_
      obtain rfl := some_inj hd156
      exact ⟨.inr rfl, _, res1 rfl (rv_tmp rfl), rfl, (flatB_ok rfl), S150.hold⟩
    · have hd157 := bif_f c155 hd153
      refine AX.skip ?_
      refine AX.seq ?_
      refine AX.seq ?_
      refine DR.startS [false, false, true, true, false] mix (by kernel_rfl) (fun hst => ?_)
      refine DR.r rfl rfl (r_loadN (vs := [.int .i64 x130, .slice p134 rs131.length c135]) rfl Try.isAgg43 Try.sizeOf43 rfl) (many_row (row_cells (S150.get (k := 0) rfl)) (bel_cons (.of_flat0 rfl) (bel_cons (S150.oin (k := 1) rfl B137).bel bel_nil))) ?_
      refine DR.r rfl rfl (r_loadN (vs := [.int .i64 a0_0, .slice p_a0_1 a0_1.length c_a0_1]) rfl Try.isAgg40 Try.sizeOf40 rfl) (many_row (row_cells (S150.get (k := 5) rfl)) (bel_cons (.of_flat0 rfl) (bel_cons (S150.view v_a0_1).inn.bel bel_nil))) ?_
      obtain ⟨⟨x158, rs159⟩, h160, hd161⟩ := bnd_some hd157
      obtain ⟨_, G170, hc169, p162, c163, T166, rfl, S171, B165, t167, s168⟩ := W_laws_toSquare fu G149 a0_0 p_a0_1 c_a0_1 T_a0_1 a0_1 t_a0_1 (S150.view v_a0_1) (S150.tview w_a0_1) x158 rs159 h160
      have S172 := S150.call S171
      refine DR.w rfl rfl (o_call (vs := [.agg [.int .i64 a0_0, .slice p_a0_1 a0_1.length c_a0_1].toArray]) rfl Try.call28 hc169) (S171.len) ?_
      obtain ⟨b173, h174, hd175⟩ := bnd_some hd161
      refine DR.w rfl rfl (o_call (vs := [.agg [.int .i64 x130, .slice p134 rs131.length c135].toArray, .agg [.int .i64 x158, .slice p162 rs159.length c163].toArray]) rfl Try.call30 (W_laws_eqSquare fu G170 x130 p134 c135 T138 rs131 t139 (S172.oview (k := 3) rfl B137 (tc_len1 t139 rfl)) (S172.oviewT (k := 4) rfl s140) x158 p162 c163 T166 rs159 t167 (S172.oview (k := 0) rfl B165 (tc_len1 t167 rfl)) (S172.oviewT (k := 1) rfl s168) b173 h174)) (Nat.le_refl _) ?_
      refine DR.p rfl rfl (p_not rfl) ?_
      refine DR.nil 5 [(0, 2)] hst (by kernel_rfl) ⟨(rdN (fun h => S171.hold _ h)), trivial⟩ ?_
      refine AX.cond rfl (fun c177 => ?_) (fun c177 => ?_)
      · have hd178 := bif_t c177 hd175
        refine AX.seq ?_
        refine AX.region ?_
        refine AO.p rfl (p_assign rfl) ?_
        refine AO.nil ?_
        refine AX.ret ?_
        obtain rfl := some_inj hd178
        exact ⟨.inr rfl, _, res1 rfl (rv_tmp rfl), rfl, (flatB_ok rfl), S172.hold⟩
      · have hd179 := bif_f c177 hd175
        refine AX.skip ?_
        refine AX.seq ?_
        refine AX.region ?_
        refine AO.p rfl (p_assign rfl) ?_
        refine AO.nil ?_
        refine AX.ret ?_
        obtain rfl := some_inj hd179
        exact ⟨.inr rfl, _, res1 rfl (rv_tmp rfl), rfl, (flatB_ok rfl), S172.hold⟩

set_option maxHeartbeats 4000000 in
theorem W_laws_FnExactCellOf (fu : Nat) (H : AHeap) (a0_0 : Int) (p_a0_1 : Option Addr) (c_a0_1 : Nat) (T_a0_1 : Tb) (a0_1 : List (List Int)) (t_a0_1 : trows T_a0_1 = a0_1) (v_a0_1 : Vw H p_a0_1 a0_1.length c_a0_1 (tcells T_a0_1)) (w_a0_1 : TVw H T_a0_1) (a1 : Int) (a2 : Int) (r0 : Bool) (hd : D_laws_FnExactCellOf fu a0_0 a0_1 a1 a2 = some r0) : ACall Try.prog 7 [.agg [.int .i64 a0_0, .slice p_a0_1 a0_1.length c_a0_1].toArray, .int .i64 a1, .int .i64 a2] H (.bool r0) H := by
  refine ACall.bodyP (N := 57) [(0, .agg [.int .i64 a0_0, .slice p_a0_1 a0_1.length c_a0_1].toArray), (1, .int .i64 a1), (2, .int .i64 a2)] Try.func7 rfl rfl rfl rfl ?_
  unfold D_laws_FnExactCellOf at hd
  have S0 : St [] H H [] := St.nil H
  refine AX.seq ?_
  refine AX.region ?_
  obtain ⟨G100, i101, hii101, hHG100, S102⟩ := S0.new (.row false ([.int .i64 a0_0, .slice p_a0_1 a0_1.length c_a0_1]))
  refine AO.c rfl (s_box (i := i101) (cs := [.int .i64 a0_0, .slice p_a0_1 a0_1.length c_a0_1]) rfl hii101 rfl hHG100) ?_
  refine AO.p rfl (p_assign rfl) ?_
  refine AO.nil ?_
  refine AX.seq ?_
  refine AX.region ?_
  refine AO.p rfl (p_assign rfl) ?_
  refine AO.nil ?_
  refine AX.seq ?_
  refine AX.region ?_
  refine AO.c rfl (s_loadN (vs := [.int .i64 a0_0, .slice p_a0_1 a0_1.length c_a0_1]) Try.isAgg40 Try.sizeOf40 rfl rfl (row_cells (S102.get (k := 0) rfl))) ?_
  refine AO.p rfl (p_move rfl) ?_
  obtain ⟨x104, h105, hd106⟩ := bnd_some hd
  refine AO.c rfl (o_call (vs := [.agg [.int .i64 a0_0, .slice p_a0_1 a0_1.length c_a0_1].toArray, .int .i64 1048576]) rfl Try.call26 (W_laws_szSquare fu G100 a0_0 p_a0_1 c_a0_1 T_a0_1 a0_1 t_a0_1 (S102.view v_a0_1) (S102.tview w_a0_1) 1048576 x104 h105)) ?_
  refine AO.p rfl (p_assign rfl) ?_
  refine AO.nil ?_
  refine AX.seq ?_
  refine AX.seq ?_
  refine AX.region ?_
  refine AO.p rfl (p_move rfl) ?_
  refine AO.p rfl (p_lss rfl rfl) ?_
  refine AO.nil ?_
  refine AX.cond rfl (fun c108 => ?_) (fun c108 => ?_)
  · have hd109 := bif_t c108 hd106
    refine AX.seq ?_
    refine AX.region ?_
    refine AO.p rfl (p_assign rfl) ?_
    refine AO.nil ?_
    refine AX.ret ?_
    obtain rfl := some_inj hd109
    exact ⟨.inr rfl, _, res1 rfl (rv_tmp rfl), rfl, (flatB_ok rfl), S102.hold⟩
  · have hd110 := bif_f c108 hd106
    refine AX.skip ?_
    refine AX.seq ?_
    refine AX.region ?_
    refine AO.c rfl (s_loadN (vs := [.int .i64 a0_0, .slice p_a0_1 a0_1.length c_a0_1]) Try.isAgg40 Try.sizeOf40 rfl rfl (row_cells (S102.get (k := 0) rfl))) ?_
    obtain ⟨⟨x111, rs112⟩, h113, hd114⟩ := bnd_some hd110
    obtain ⟨_, G123, hc122, p115, c116, T119, rfl, S124, B118, t120, s121⟩ := W_laws_toSquare fu G100 a0_0 p_a0_1 c_a0_1 T_a0_1 a0_1 t_a0_1 (S102.view v_a0_1) (S102.tview w_a0_1) x111 rs112 h113
    have S125 := S102.call S124
    refine AO.c rfl (o_call (vs := [.agg [.int .i64 a0_0, .slice p_a0_1 a0_1.length c_a0_1].toArray]) rfl Try.call28 hc122) ?_
    refine AO.p rfl (p_move rfl) ?_
    refine AO.p rfl (p_move rfl) ?_
    obtain ⟨⟨x126, x127, x128⟩, h129, hd130⟩ := bnd_some hd114
    refine AO.c rfl (o_call (vs := [.agg [.int .i64 x111, .slice p115 rs112.length c116].toArray, .int .i64 a1, .int .i64 a2]) rfl Try.call36 (W_spec_CellOf fu G123 x111 p115 c116 T119 rs112 t120 (S125.oview (k := 0) rfl B118 (tc_len1 t120 rfl)) (S125.oviewT (k := 1) rfl s121) a1 a2 x126 x127 x128 h129)) ?_
    refine AO.p rfl (p_move rfl) ?_
    refine AO.p rfl (p_extract rfl rfl) ?_
    refine AO.p rfl (p_extract rfl rfl) ?_
    refine AO.p rfl (p_extract rfl rfl) ?_
    refine AO.p rfl (p_assign rfl) ?_
    refine AO.p rfl (p_assign rfl) ?_
    refine AO.p rfl (p_assign rfl) ?_
    refine AO.nil ?_
    refine AX.seq ?_
    refine AX.region ?_
    refine AO.c rfl (s_loadN (vs := [.int .i64 a0_0, .slice p_a0_1 a0_1.length c_a0_1]) Try.isAgg40 Try.sizeOf40 rfl rfl (row_cells (S125.get (k := 2) rfl))) ?_
    obtain ⟨⟨x132, rs133⟩, h134, hd135⟩ := bnd_some hd130
    obtain ⟨_, G144, hc143, p136, c137, T140, rfl, S145, B139, t141, s142⟩ := W_laws_toSquare fu G123 a0_0 p_a0_1 c_a0_1 T_a0_1 a0_1 t_a0_1 (S125.view v_a0_1) (S125.tview w_a0_1) x132 rs133 h134
    have S146 := S125.call S145
    refine AO.c rfl (o_call (vs := [.agg [.int .i64 a0_0, .slice p_a0_1 a0_1.length c_a0_1].toArray]) rfl Try.call28 hc143) ?_
    obtain ⟨G147, i148, hii148, hHG147, S149⟩ := S146.new (.row false ([.int .i64 0, .slice none 0 0]))
    refine AO.c rfl (s_alloc (i := i148) (cs := [.int .i64 0, .slice none 0 0]) Try.zeroValue43 rfl rfl hii148 hHG147) ?_
    obtain ⟨G151, hHG151, S152⟩ := S149.set (k := 0) (i := i148) rfl (.row false ([.int .i64 x132, .slice p136 rs133.length c137]))
    refine AO.s (s_storeAll (vs := [.int .i64 x132, .slice p136 rs133.length c137]) Try.sizeOf43 rfl rfl (ones_list rfl) (S149.get (k := 0) rfl) rfl rfl hHG151) ?_
    refine AO.nil ?_
    refine AX.seq ?_
    refine AX.region ?_
    refine AO.c rfl (s_loadN (vs := [.int .i64 x132, .slice p136 rs133.length c137]) Try.isAgg43 Try.sizeOf43 rfl rfl (row_cells (S152.get (k := 0) rfl))) ?_
    refine AO.p rfl (p_move rfl) ?_
    refine AO.p rfl (p_move rfl) ?_
    obtain ⟨⟨x153, x154, x155⟩, h156, hd157⟩ := bnd_some hd135
    refine AO.c rfl (o_call (vs := [.agg [.int .i64 x132, .slice p136 rs133.length c137].toArray, .int .i64 a1, .int .i64 a2]) rfl Try.call37 (W_impl_CellOf fu G151 x132 p136 c137 T140 rs133 t141 (S152.oview (k := 1) rfl B139 (tc_len1 t141 rfl)) (S152.oviewT (k := 2) rfl s142) a1 a2 x153 x154 x155 h156)) ?_
    refine AO.p rfl (p_move rfl) ?_
    refine AO.p rfl (p_extract rfl rfl) ?_
    refine AO.p rfl (p_extract rfl rfl) ?_
    refine AO.p rfl (p_extract rfl rfl) ?_
    refine AO.p rfl (p_assign rfl) ?_
    refine AO.p rfl (p_assign rfl) ?_
    refine AO.p rfl (p_assign rfl) ?_
    refine AO.nil ?_
    refine AX.seq ?_
    refine AX.cut (fun t' H' => G151 = H' ∧ Am.Sub [(3, .pointer (some ⟨i101, 0, none⟩)), (11, .pointer (some ⟨i148, 0, none⟩)), (51, .bool ((!decide (x153 = x126)) || ((!decide (x154 = x127)) || (!decide (x155 = x128)))))] t') ?_ ?_
    · skip
      refine AX.region ?_
      refine AO.p rfl (p_move rfl) ?_
      refine AO.p rfl (p_move rfl) ?_
      refine AO.p rfl (p_neq rfl rfl) ?_
      refine AO.p rfl (p_move rfl) ?_
      refine AO.cases (d := 42) rfl (fun c165 => ?_) (fun c165 => ?_)
      · skip
        refine AO.gn rfl rfl rfl ?_
        refine AO.gn rfl rfl rfl ?_
        refine AO.gn rfl rfl rfl ?_
        refine AO.p rfl (p_pickT rfl rfl) ?_
        refine AO.p rfl (p_move rfl) ?_
        refine AO.gn rfl rfl rfl ?_
        refine AO.gn rfl rfl rfl ?_
        refine AO.gn rfl rfl rfl ?_
        refine AO.p rfl (p_pickT rfl rfl) ?_
        refine AO.nil ?_
        exact ⟨rfl, Sub.cons' rfl rfl (Sub.cons' rfl rfl (Sub.cons' rfl (bool_eq (by simp only [c165, Bool.true_and, Bool.false_and, Bool.and_true, Bool.and_false, Bool.true_or, Bool.false_or, Bool.or_true, Bool.or_false, Bool.not_true, Bool.not_false, cond_true, cond_false])) (Sub.nil _)))⟩
      · skip
        refine AO.gp rfl rfl rfl (p_move rfl) ?_
        refine AO.gp rfl rfl rfl (p_move rfl) ?_
        refine AO.gp rfl rfl rfl (p_neq rfl rfl) ?_
        refine AO.p rfl (p_pickF rfl rfl) ?_
        refine AO.p rfl (p_move rfl) ?_
        refine AO.cases (d := 47) rfl (fun c166 => ?_) (fun c166 => ?_)
        · skip
          refine AO.gn rfl rfl rfl ?_
          refine AO.gn rfl rfl rfl ?_
          refine AO.gn rfl rfl rfl ?_
          refine AO.p rfl (p_pickT rfl rfl) ?_
          refine AO.nil ?_
          exact ⟨rfl, Sub.cons' rfl rfl (Sub.cons' rfl rfl (Sub.cons' rfl (bool_eq (by simp only [c165, c166, Bool.true_and, Bool.false_and, Bool.and_true, Bool.and_false, Bool.true_or, Bool.false_or, Bool.or_true, Bool.or_false, Bool.not_true, Bool.not_false, cond_true, cond_false])) (Sub.nil _)))⟩
        · skip
          refine AO.gp rfl rfl rfl (p_move rfl) ?_
          refine AO.gp rfl rfl rfl (p_move rfl) ?_
          refine AO.gp rfl rfl rfl (p_neq rfl rfl) ?_
          refine AO.p rfl (p_pickF rfl rfl) ?_
          refine AO.nil ?_
          exact ⟨rfl, Sub.cons' rfl rfl (Sub.cons' rfl rfl (Sub.cons' rfl (bool_eq (by simp only [c165, c166, Bool.true_and, Bool.false_and, Bool.and_true, Bool.and_false, Bool.true_or, Bool.false_or, Bool.or_true, Bool.or_false, Bool.not_true, Bool.not_false, cond_true, cond_false])) (Sub.nil _)))⟩
    · rintro t' _ ⟨rfl, hsub167⟩
      refine AX.sub hsub167 ?_
      refine AX.cond rfl (fun c168 => ?_) (fun c168 => ?_)
      · have hd169 := bif_t c168 hd157
        refine AX.seq ?_
        refine AX.region ?_
        refine AO.p rfl (p_assign rfl) ?_
        refine AO.nil ?_
        refine AX.ret ?_
        obtain rfl := some_inj hd169
        exact ⟨.inr rfl, _, res1 rfl (rv_tmp rfl), rfl, (flatB_ok rfl), S152.hold⟩
      · have hd170 := bif_f c168 hd157
        refine AX.skip ?_
        refine AX.seq ?_
        refine AX.seq ?_
        refine DR.startS [false, false, true, true, false] mix (by kernel_rfl) (fun hst => ?_)
        refine DR.r rfl rfl (r_loadN (vs := [.int .i64 x132, .slice p136 rs133.length c137]) rfl Try.isAgg43 Try.sizeOf43 rfl) (many_row (row_cells (S152.get (k := 0) rfl)) (bel_cons (.of_flat0 rfl) (bel_cons (S152.oin (k := 1) rfl B139).bel bel_nil))) ?_
        refine DR.r rfl rfl (r_loadN (vs := [.int .i64 a0_0, .slice p_a0_1 a0_1.length c_a0_1]) rfl Try.isAgg40 Try.sizeOf40 rfl) (many_row (row_cells (S152.get (k := 5) rfl)) (bel_cons (.of_flat0 rfl) (bel_cons (S152.view v_a0_1).inn.bel bel_nil))) ?_
        obtain ⟨⟨x171, rs172⟩, h173, hd174⟩ := bnd_some hd170
        obtain ⟨_, G183, hc182, p175, c176, T179, rfl, S184, B178, t180, s181⟩ := W_laws_toSquare fu G151 a0_0 p_a0_1 c_a0_1 T_a0_1 a0_1 t_a0_1 (S152.view v_a0_1) (S152.tview w_a0_1) x171 rs172 h173
        have S185 := S152.call S184
        refine DR.w rfl rfl (o_call (vs := [.agg [.int .i64 a0_0, .slice p_a0_1 a0_1.length c_a0_1].toArray]) rfl Try.call28 hc182) (S184.len) ?_
        obtain ⟨b186, h187, hd188⟩ := bnd_some hd174
        refine DR.w rfl rfl (o_call (vs := [.agg [.int .i64 x132, .slice p136 rs133.length c137].toArray, .agg [.int .i64 x171, .slice p175 rs172.length c176].toArray]) rfl Try.call30 (W_laws_eqSquare fu G183 x132 p136 c137 T140 rs133 t141 (S185.oview (k := 3) rfl B139 (tc_len1 t141 rfl)) (S185.oviewT (k := 4) rfl s142) x171 p175 c176 T179 rs172 t180 (S185.oview (k := 0) rfl B178 (tc_len1 t180 rfl)) (S185.oviewT (k := 1) rfl s181) b186 h187)) (Nat.le_refl _) ?_
        refine DR.p rfl rfl (p_not rfl) ?_
        refine DR.nil 5 [(0, 2)] hst (by kernel_rfl) ⟨(rdN (fun h => S184.hold _ h)), trivial⟩ ?_
        refine AX.cond rfl (fun c190 => ?_) (fun c190 => ?_)
        · have hd191 := bif_t c190 hd188
          refine AX.seq ?_
          refine AX.region ?_
          refine AO.p rfl (p_assign rfl) ?_
          refine AO.nil ?_
          refine AX.ret ?_
          obtain rfl := some_inj hd191
          exact ⟨.inr rfl, _, res1 rfl (rv_tmp rfl), rfl, (flatB_ok rfl), S185.hold⟩
        · have hd192 := bif_f c190 hd188
          refine AX.skip ?_
          refine AX.seq ?_
          refine AX.region ?_
          refine AO.p rfl (p_assign rfl) ?_
          refine AO.nil ?_
          refine AX.ret ?_
          obtain rfl := some_inj hd192
          exact ⟨.inr rfl, _, res1 rfl (rv_tmp rfl), rfl, (flatB_ok rfl), S185.hold⟩

end Go.Proofs.Ytocaepkkaihiiaa
