/-
  The program computes that, printed by a program. No condition.
-/
import Derived.Test.YtnmbjedijgcncaaDX
import Derived.Test.YtnmbjedijgcncaaWG
import Derived.Test.YtnmbjedijgcncaaProg
import Derived.KernelRfl
namespace Go.Proofs.Ytnmbjedijgcncaa
open Go Go.RowKit Am
set_option linter.unusedVariables false
set_option linter.unusedSimpArgs false
set_option maxRecDepth 20000
set_option maxHeartbeats 4000000 in
theorem W_laws_FnExactComponentsOf (fu : Nat) (H : AHeap) (a0 : Int) (a1 : List Int) (h_a1 : a1.length = 14) (a2 : List Int) (h_a2 : a2.length = 14) (r0 : Bool) (hd : D_laws_FnExactComponentsOf fu a0 a1 a2 = some r0) : ACall Try.prog 3 [.int .i64 a0, .agg (ints a1).toArray, .agg (ints a2).toArray] H (.bool r0) H := by
  refine ACall.bodyP (N := 79) [(0, .int .i64 a0), (1, .agg (ints a1).toArray), (2, .agg (ints a2).toArray)] Try.func3 rfl rfl rfl rfl ?_
  unfold D_laws_FnExactComponentsOf at hd
  have S0 : St [] H H [] := St.nil H
  refine AX.seq ?_
  refine AX.region ?_
  obtain ⟨G100, i101, hii101, hHG100, S102⟩ := S0.new (AObj.row false (ints a1))
  refine AO.c rfl (s_box (i := i101) (cs := ints a1) rfl hii101 rfl hHG100) ?_
  obtain ⟨G104, i105, hii105, hHG104, S106⟩ := S102.new (AObj.row false (ints a2))
  refine AO.c rfl (s_box (i := i105) (cs := ints a2) rfl hii105 rfl hHG104) ?_
  refine AO.p rfl (p_assign rfl) ?_
  refine AO.nil ?_
  refine AX.seq ?_
  refine DR.startS [false, false, true, false, true, true, false, false, false, false, false] mix (by kernel_rfl) (fun hst => ?_)
  refine DR.p rfl rfl (p_move rfl) ?_
  refine DR.r rfl rfl (r_loadN (vs := ints a1) rfl Try.isAgg22 Try.sizeOf22 (ints_len h_a1)) (many_row (row_cells (S106.get (k := 1) rfl)) bel_ints) ?_
  obtain ⟨xs108, h109, hd110⟩ := bnd_some hd
  obtain ⟨hc112, l113⟩ := W_laws_toRound fu G104 a1 h_a1 xs108 h109
  refine DR.w rfl rfl (o_call (vs := [.agg (ints a1).toArray]) rfl Try.call16 hc112) (Nat.le_refl _) ?_
  refine DR.r rfl rfl (r_loadN (vs := ints a2) rfl Try.isAgg22 Try.sizeOf22 (ints_len h_a2)) (many_row (row_cells (S106.get (k := 0) rfl)) bel_ints) ?_
  obtain ⟨xs114, h115, hd116⟩ := bnd_some hd110
  obtain ⟨hc118, l119⟩ := W_laws_toRound fu G104 a2 h_a2 xs114 h115
  refine DR.w rfl rfl (o_call (vs := [.agg (ints a2).toArray]) rfl Try.call16 hc118) (Nat.le_refl _) ?_
  obtain ⟨⟨rs120, x121⟩, h122, hd123⟩ := bnd_some hd116
  obtain ⟨_, G132, hc131, p124, c125, T128, rfl, S133, B127, t129, s130⟩ := W_spec_ComponentsOf fu G104 a0 xs108 l113 xs114 l119 rs120 x121 h122
  have S134 := S106.call S133
  refine DR.w rfl rfl (o_call (vs := [.int .i64 a0, .agg (ints xs108).toArray, .agg (ints xs114).toArray]) rfl Try.call15 hc131) (S133.len) ?_
  refine DR.p rfl rfl (p_move rfl) ?_
  refine DR.p rfl rfl (p_extract rfl rfl) ?_
  refine DR.p rfl rfl (p_extract rfl rfl) ?_
  refine DR.p rfl rfl (p_assign rfl) ?_
  refine DR.p rfl rfl (p_assign rfl) ?_
  refine DR.nil 11 [(3, 2)] hst (by kernel_rfl) ⟨(rdN (fun _ => rfl)), trivial⟩ ?_
  refine AX.seq ?_
  refine DR.startS [false, false, true, false, true, true, false, false, false, false, false] mix (by kernel_rfl) (fun hst => ?_)
  refine DR.p rfl rfl (p_move rfl) ?_
  refine DR.r rfl rfl (r_loadN (vs := ints a1) rfl Try.isAgg22 Try.sizeOf22 (ints_len h_a1)) (many_row (row_cells (S134.get (k := 3) rfl)) bel_ints) ?_
  obtain ⟨xs135, h136, hd137⟩ := bnd_some hd123
  obtain ⟨hc139, l140⟩ := W_laws_toRound fu G132 a1 h_a1 xs135 h136
  refine DR.w rfl rfl (o_call (vs := [.agg (ints a1).toArray]) rfl Try.call16 hc139) (Nat.le_refl _) ?_
  refine DR.r rfl rfl (r_loadN (vs := ints a2) rfl Try.isAgg22 Try.sizeOf22 (ints_len h_a2)) (many_row (row_cells (S134.get (k := 2) rfl)) bel_ints) ?_
  obtain ⟨xs141, h142, hd143⟩ := bnd_some hd137
  obtain ⟨hc145, l146⟩ := W_laws_toRound fu G132 a2 h_a2 xs141 h142
  refine DR.w rfl rfl (o_call (vs := [.agg (ints a2).toArray]) rfl Try.call16 hc145) (Nat.le_refl _) ?_
  obtain ⟨⟨rs147, x148⟩, h149, hd150⟩ := bnd_some hd143
  obtain ⟨_, G159, hc158, p151, c152, T155, rfl, S160, B154, t156, s157⟩ := W_impl_ComponentsOf fu G132 a0 xs135 l140 xs141 l146 rs147 x148 h149
  have S161 := S134.call S160
  refine DR.w rfl rfl (o_call (vs := [.int .i64 a0, .agg (ints xs135).toArray, .agg (ints xs141).toArray]) rfl Try.call17 hc158) (S160.len) ?_
  refine DR.p rfl rfl (p_move rfl) ?_
  refine DR.p rfl rfl (p_extract rfl rfl) ?_
  refine DR.p rfl rfl (p_extract rfl rfl) ?_
  refine DR.p rfl rfl (p_assign rfl) ?_
  refine DR.p rfl rfl (p_assign rfl) ?_
  refine DR.nil 11 [(3, 2)] hst (by kernel_rfl) ⟨(rdN (fun _ => rfl)), trivial⟩ ?_
  refine AX.seq ?_
  obtain ⟨r174, hb175, hd176⟩ := bnd_some hd150
  refine AX.cut (fun t' H' => ∃ (b173 : Bool), b173 = r174 ∧ St [] H H' [[(i101, AObj.row false (ints a1))], [(i105, AObj.row false (ints a2))], oseg p124 (tcells T128), tseg T128, oseg p151 (tcells T155), tseg T155] ∧ Am.Sub [(0, .int .i64 a0), (4, .pointer (some ⟨i101, 0, none⟩)), (5, .pointer (some ⟨i105, 0, none⟩)), (7, .slice p124 rs120.length c125), (8, .int .i64 x121), (9, .slice p151 rs147.length c152), (41, .bool b173)] t') ?_ ?_
  · skip
    refine AX.region ?_
    refine AO.p rfl (p_move rfl) ?_
    refine AO.p rfl (p_move rfl) ?_
    obtain ⟨b177, h178, hd179⟩ := bnd_some hb175
    refine AO.c rfl (o_call (vs := [.slice p151 rs147.length c152, .slice p124 rs120.length c125]) rfl Try.call18 (W_laws_eqInt64SS fu G159 p151 c152 T155 rs147 t156 (S161.oview (k := 0) rfl B154 (tc_len1 t156 rfl)) (S161.oviewT (k := 1) rfl s157) p124 c125 T128 rs120 t129 (S161.oview (k := 2) rfl B127 (tc_len1 t129 rfl)) (S161.oviewT (k := 3) rfl s130) b177 h178)) ?_
    refine AO.p rfl (p_not rfl) ?_
    refine AO.p rfl (p_move rfl) ?_
    refine AO.cases (d := 37) rfl (fun c181 => ?_) (fun c181 => ?_)
    · have hd182 := bif_t c181 hd179
      refine AO.gn rfl rfl rfl ?_
      refine AO.gn rfl rfl rfl ?_
      refine AO.gn rfl rfl rfl ?_
      refine AO.p rfl (p_pickT rfl rfl) ?_
      refine AO.nil ?_
      have S183 := S161.front 1 rfl
      have S184 := S183.front 1 rfl
      have S185 := S184.front 3 rfl
      have S186 := S185.front 3 rfl
      have S187 := S186.front 4 rfl
      have S188 := S187.front 5 rfl
      exact ⟨true, (some_inj hd182), S188, Sub.cons' rfl rfl (Sub.cons' rfl rfl (Sub.cons' rfl rfl (Sub.cons' rfl rfl (Sub.cons' rfl rfl (Sub.cons' rfl rfl (Sub.cons' rfl rfl (Sub.nil _)))))))⟩
    · have hd189 := bif_f c181 hd179
      refine AO.gp rfl rfl rfl (p_move rfl) ?_
      refine AO.gp rfl rfl rfl (p_move rfl) ?_
      refine AO.gp rfl rfl rfl (p_neq rfl rfl) ?_
      refine AO.p rfl (p_pickF rfl rfl) ?_
      refine AO.nil ?_
      have S190 := S161.front 1 rfl
      have S191 := S190.front 1 rfl
      have S192 := S191.front 3 rfl
      have S193 := S192.front 3 rfl
      have S194 := S193.front 4 rfl
      have S195 := S194.front 5 rfl
      exact ⟨(!decide (x148 = x121)), (some_inj hd189), S195, Sub.cons' rfl rfl (Sub.cons' rfl rfl (Sub.cons' rfl rfl (Sub.cons' rfl rfl (Sub.cons' rfl rfl (Sub.cons' rfl rfl (Sub.cons' rfl rfl (Sub.nil _)))))))⟩
  · rintro t' G197 ⟨b173, rfl, S196, hsub198⟩
    refine AX.sub hsub198 ?_
    refine AX.cond rfl (fun c199 => ?_) (fun c199 => ?_)
    · have hd200 := bif_t c199 hd176
      refine AX.seq ?_
      refine AX.region ?_
      refine AO.p rfl (p_assign rfl) ?_
      refine AO.nil ?_
      refine AX.ret ?_
      obtain rfl := some_inj hd200
      exact ⟨.inr rfl, _, res1 rfl (rv_tmp rfl), rfl, (flatB_ok rfl), S196.hold⟩
    · have hd201 := bif_f c199 hd176
      refine AX.skip ?_
      refine AX.seq ?_
      refine AX.region ?_
      refine AO.p rfl (p_assign rfl) ?_
      refine AO.nil ?_
      refine AX.seq ?_
      refine AX.region ?_
      refine AO.p rfl (p_move rfl) ?_
      refine AO.p rfl (p_move rfl) ?_
      have S202 := S196.front 5 rfl
      have S203 := S202.front 5 rfl
      obtain ⟨⟨x204, rs205⟩, h206, hd207⟩ := bnd_some hd201
      obtain ⟨_, G213, hc212, T208, rfl, S214, t209, s210, l211⟩ := W_laws_markInt64SS fu G197 p151 c152 T155 rs147 t156 B154 s157 1 ((S203).join2.onodup (k := 0) rfl) ((S203).join2.omem (k := 0) rfl) x204 rs205 h206
      have S215 := St.callM (A := [oseg p151 (tcells T155), tseg T155]) S203 S214 (by simp)
      refine AO.c rfl (o_call (vs := [.slice p151 rs147.length c152, .int .i64 1]) rfl Try.call19 hc212) ?_
      refine AO.p rfl (p_assign rfl) ?_
      refine AO.nil ?_
      refine AX.seq ?_
      refine AX.region ?_
      refine AO.p rfl (p_assign rfl) ?_
      refine AO.nil ?_
      refine AX.seq ?_
      refine AX.region ?_
      refine AO.p rfl (p_move rfl) ?_
      refine AO.p rfl (p_move rfl) ?_
      obtain ⟨x216, h217, hd218⟩ := bnd_some hd207
      refine AO.c rfl (o_call (vs := [.slice p151 rs147.length c152, .int .i64 1]) rfl Try.call20 (by have h' := W_laws_heldInt64SS fu G213 p151 c152 T208 rs205 t209 (by rw [show List.length rs205 = rs147.length from (Eq.trans l211 rfl)]; exact (S215.oview (k := 0) rfl B154 (tc_len1 t209 (Eq.trans l211 rfl)))) (S215.oviewT (k := 1) rfl s210) 1 x216 h217; rw [show List.length rs205 = rs147.length from (Eq.trans l211 rfl)] at h'; exact h')) ?_
      refine AO.p rfl (p_assign rfl) ?_
      refine AO.nil ?_
      refine AX.seq ?_
      refine AX.seq ?_
      refine AX.region ?_
      refine AO.p rfl (p_move rfl) ?_
      refine AO.p rfl (p_lss rfl rfl) ?_
      refine AO.nil ?_
      refine AX.cond rfl (fun c220 => ?_) (fun c220 => ?_)
      · have hd221 := bif_t c220 hd218
        refine AX.seq ?_
        refine AX.region ?_
        refine AO.p rfl (p_assign rfl) ?_
        refine AO.nil ?_
        refine AX.ret ?_
        obtain rfl := some_inj hd221
        exact ⟨.inr rfl, _, res1 rfl (rv_tmp rfl), rfl, (flatB_ok rfl), S215.hold⟩
      · have hd222 := bif_f c220 hd218
        refine AX.skip ?_
        refine AX.seq ?_
        refine AX.seq ?_
        refine AX.region ?_
        refine AO.p rfl (p_move rfl) ?_
        refine AO.p rfl (p_move rfl) ?_
        refine AO.p rfl (p_neq rfl rfl) ?_
        refine AO.nil ?_
        refine AX.cond rfl (fun c223 => ?_) (fun c223 => ?_)
        · have hd224 := bif_t c223 hd222
          refine AX.seq ?_
          refine AX.region ?_
          refine AO.p rfl (p_assign rfl) ?_
          refine AO.nil ?_
          refine AX.ret ?_
          obtain rfl := some_inj hd224
          exact ⟨.inr rfl, _, res1 rfl (rv_tmp rfl), rfl, (flatB_ok rfl), S215.hold⟩
        · have hd225 := bif_f c223 hd222
          refine AX.skip ?_
          refine AX.seq ?_
          refine DR.startS [false, false, true, false, true, true, false, false, false, false, false] mix (by kernel_rfl) (fun hst => ?_)
          refine DR.p rfl rfl (p_move rfl) ?_
          refine DR.r rfl rfl (r_loadN (vs := ints a1) rfl Try.isAgg22 Try.sizeOf22 (ints_len h_a1)) (many_row (row_cells (S215.get (k := 2) rfl)) bel_ints) ?_
          obtain ⟨xs226, h227, hd228⟩ := bnd_some hd225
          obtain ⟨hc230, l231⟩ := W_laws_toRound fu G213 a1 h_a1 xs226 h227
          refine DR.w rfl rfl (o_call (vs := [.agg (ints a1).toArray]) rfl Try.call16 hc230) (Nat.le_refl _) ?_
          refine DR.r rfl rfl (r_loadN (vs := ints a2) rfl Try.isAgg22 Try.sizeOf22 (ints_len h_a2)) (many_row (row_cells (S215.get (k := 3) rfl)) bel_ints) ?_
          obtain ⟨xs232, h233, hd234⟩ := bnd_some hd228
          obtain ⟨hc236, l237⟩ := W_laws_toRound fu G213 a2 h_a2 xs232 h233
          refine DR.w rfl rfl (o_call (vs := [.agg (ints a2).toArray]) rfl Try.call16 hc236) (Nat.le_refl _) ?_
          obtain ⟨⟨rs238, x239⟩, h240, hd241⟩ := bnd_some hd234
          obtain ⟨_, G250, hc249, p242, c243, T246, rfl, S251, B245, t247, s248⟩ := W_impl_ComponentsOf fu G213 a0 xs226 l231 xs232 l237 rs238 x239 h240
          have S252 := S215.call S251
          refine DR.w rfl rfl (o_call (vs := [.int .i64 a0, .agg (ints xs226).toArray, .agg (ints xs232).toArray]) rfl Try.call17 hc249) (S251.len) ?_
          refine DR.p rfl rfl (p_move rfl) ?_
          refine DR.p rfl rfl (p_extract rfl rfl) ?_
          refine DR.p rfl rfl (p_extract rfl rfl) ?_
          refine DR.p rfl rfl (p_assign rfl) ?_
          refine DR.p rfl rfl (p_assign rfl) ?_
          refine DR.nil 11 [(3, 2)] hst (by kernel_rfl) ⟨(rdN (fun _ => rfl)), trivial⟩ ?_
          refine AX.seq ?_
          obtain ⟨r262, hb263, hd264⟩ := bnd_some hd241
          refine AX.cut (fun t' H' => ∃ (b261 : Bool), b261 = r262 ∧ St [] H H' [oseg p151 (tcells T208), tseg T208] ∧ Am.Sub [(9, .slice p151 rs147.length c152), (11, .int .i64 x204), (70, .bool b261)] t') ?_ ?_
          · skip
            refine AX.region ?_
            refine AO.p rfl (p_move rfl) ?_
            refine AO.p rfl (p_move rfl) ?_
            obtain ⟨b265, h266, hd267⟩ := bnd_some hb263
            refine AO.c rfl (o_call (vs := [.slice p242 rs238.length c243, .slice p124 rs120.length c125]) rfl Try.call18 (W_laws_eqInt64SS fu G250 p242 c243 T246 rs238 t247 (S252.oview (k := 0) rfl B245 (tc_len1 t247 rfl)) (S252.oviewT (k := 1) rfl s248) p124 c125 T128 rs120 t129 (S252.oview (k := 6) rfl B127 (tc_len1 t129 rfl)) (S252.oviewT (k := 7) rfl s130) b265 h266)) ?_
            refine AO.p rfl (p_not rfl) ?_
            refine AO.p rfl (p_move rfl) ?_
            refine AO.cases (d := 66) rfl (fun c269 => ?_) (fun c269 => ?_)
            · have hd270 := bif_t c269 hd267
              refine AO.gn rfl rfl rfl ?_
              refine AO.gn rfl rfl rfl ?_
              refine AO.gn rfl rfl rfl ?_
              refine AO.p rfl (p_pickT rfl rfl) ?_
              refine AO.nil ?_
              have S271 := S252.front 3 rfl
              have S272 := S271.front 3 rfl
              have S273 := S272.keep 2
              exact ⟨true, (some_inj hd270), S273, Sub.cons' rfl rfl (Sub.cons' rfl rfl (Sub.cons' rfl rfl (Sub.nil _)))⟩
            · have hd274 := bif_f c269 hd267
              refine AO.gp rfl rfl rfl (p_move rfl) ?_
              refine AO.gp rfl rfl rfl (p_move rfl) ?_
              refine AO.gp rfl rfl rfl (p_neq rfl rfl) ?_
              refine AO.p rfl (p_pickF rfl rfl) ?_
              refine AO.nil ?_
              have S275 := S252.front 3 rfl
              have S276 := S275.front 3 rfl
              have S277 := S276.keep 2
              exact ⟨(!decide (x239 = x121)), (some_inj hd274), S277, Sub.cons' rfl rfl (Sub.cons' rfl rfl (Sub.cons' rfl rfl (Sub.nil _)))⟩
          · rintro t' G279 ⟨b261, rfl, S278, hsub280⟩
            refine AX.sub hsub280 ?_
            refine AX.cond rfl (fun c281 => ?_) (fun c281 => ?_)
            · have hd282 := bif_t c281 hd264
              refine AX.seq ?_
              refine AX.region ?_
              refine AO.p rfl (p_assign rfl) ?_
              refine AO.nil ?_
              refine AX.ret ?_
              obtain rfl := some_inj hd282
              exact ⟨.inr rfl, _, res1 rfl (rv_tmp rfl), rfl, (flatB_ok rfl), S278.hold⟩
            · have hd283 := bif_f c281 hd264
              refine AX.skip ?_
              refine AX.seq ?_
              refine AX.region ?_
              refine AO.p rfl (p_assign rfl) ?_
              refine AO.nil ?_
              refine AX.seq ?_
              refine AX.region ?_
              refine AO.p rfl (p_move rfl) ?_
              refine AO.p rfl (p_move rfl) ?_
              obtain ⟨x284, h285, hd286⟩ := bnd_some hd283
              refine AO.c rfl (o_call (vs := [.slice p151 rs147.length c152, .int .i64 1]) rfl Try.call20 (by have h' := W_laws_heldInt64SS fu G279 p151 c152 T208 rs205 t209 (by rw [show List.length rs205 = rs147.length from (Eq.trans l211 rfl)]; exact (S278.oview (k := 0) rfl B154 (tc_len1 t209 (Eq.trans l211 rfl)))) (S278.oviewT (k := 1) rfl s210) 1 x284 h285; rw [show List.length rs205 = rs147.length from (Eq.trans l211 rfl)] at h'; exact h')) ?_
              refine AO.p rfl (p_assign rfl) ?_
              refine AO.nil ?_
              refine AX.seq ?_
              refine AX.seq ?_
              refine AX.region ?_
              refine AO.p rfl (p_move rfl) ?_
              refine AO.p rfl (p_lss rfl rfl) ?_
              refine AO.nil ?_
              refine AX.cond rfl (fun c288 => ?_) (fun c288 => ?_)
              · have hd289 := bif_t c288 hd286
                refine AX.seq ?_
                refine AX.region ?_
                refine AO.p rfl (p_assign rfl) ?_
                refine AO.nil ?_
                refine AX.ret ?_
                obtain rfl := some_inj hd289
                exact ⟨.inr rfl, _, res1 rfl (rv_tmp rfl), rfl, (flatB_ok rfl), S278.hold⟩
              · have hd290 := bif_f c288 hd286
                refine AX.skip ?_
                refine AX.seq ?_
                refine AX.seq ?_
                refine AX.region ?_
                refine AO.p rfl (p_move rfl) ?_
                refine AO.p rfl (p_move rfl) ?_
                refine AO.p rfl (p_neq rfl rfl) ?_
                refine AO.nil ?_
                refine AX.cond rfl (fun c291 => ?_) (fun c291 => ?_)
                · have hd292 := bif_t c291 hd290
                  refine AX.seq ?_
                  refine AX.region ?_
                  refine AO.p rfl (p_assign rfl) ?_
                  refine AO.nil ?_
                  refine AX.ret ?_
                  obtain rfl := some_inj hd292
                  exact ⟨.inr rfl, _, res1 rfl (rv_tmp rfl), rfl, (flatB_ok rfl), S278.hold⟩
                · have hd293 := bif_f c291 hd290
                  refine AX.skip ?_
                  refine AX.seq ?_
                  refine AX.region ?_
                  refine AO.p rfl (p_assign rfl) ?_
                  refine AO.nil ?_
                  refine AX.ret ?_
                  obtain rfl := some_inj hd293
                  exact ⟨.inr rfl, _, res1 rfl (rv_tmp rfl), rfl, (flatB_ok rfl), S278.hold⟩

set_option maxHeartbeats 4000000 in
theorem W_laws_FnExactTypeOfRounds (fu : Nat) (H : AHeap) (a0 : Int) (a1 : List Int) (h_a1 : a1.length = 14) (a2 : List Int) (h_a2 : a2.length = 14) (r0 : Bool) (hd : D_laws_FnExactTypeOfRounds fu a0 a1 a2 = some r0) : ACall Try.prog 4 [.int .i64 a0, .agg (ints a1).toArray, .agg (ints a2).toArray] H (.bool r0) H := by
  refine ACall.bodyP (N := 79) [(0, .int .i64 a0), (1, .agg (ints a1).toArray), (2, .agg (ints a2).toArray)] Try.func4 rfl rfl rfl rfl ?_
  unfold D_laws_FnExactTypeOfRounds at hd
  have S0 : St [] H H [] := St.nil H
  refine AX.seq ?_
  refine AX.region ?_
  obtain ⟨G100, i101, hii101, hHG100, S102⟩ := S0.new (AObj.row false (ints a1))
  refine AO.c rfl (s_box (i := i101) (cs := ints a1) rfl hii101 rfl hHG100) ?_
  obtain ⟨G104, i105, hii105, hHG104, S106⟩ := S102.new (AObj.row false (ints a2))
  refine AO.c rfl (s_box (i := i105) (cs := ints a2) rfl hii105 rfl hHG104) ?_
  refine AO.p rfl (p_assign rfl) ?_
  refine AO.nil ?_
  refine AX.seq ?_
  refine DR.startS [false, false, true, false, true, true, false, false, false, false, false] mix (by kernel_rfl) (fun hst => ?_)
  refine DR.p rfl rfl (p_move rfl) ?_
  refine DR.r rfl rfl (r_loadN (vs := ints a1) rfl Try.isAgg22 Try.sizeOf22 (ints_len h_a1)) (many_row (row_cells (S106.get (k := 1) rfl)) bel_ints) ?_
  obtain ⟨xs108, h109, hd110⟩ := bnd_some hd
  obtain ⟨hc112, l113⟩ := W_laws_toRound fu G104 a1 h_a1 xs108 h109
  refine DR.w rfl rfl (o_call (vs := [.agg (ints a1).toArray]) rfl Try.call16 hc112) (Nat.le_refl _) ?_
  refine DR.r rfl rfl (r_loadN (vs := ints a2) rfl Try.isAgg22 Try.sizeOf22 (ints_len h_a2)) (many_row (row_cells (S106.get (k := 0) rfl)) bel_ints) ?_
  obtain ⟨xs114, h115, hd116⟩ := bnd_some hd110
  obtain ⟨hc118, l119⟩ := W_laws_toRound fu G104 a2 h_a2 xs114 h115
  refine DR.w rfl rfl (o_call (vs := [.agg (ints a2).toArray]) rfl Try.call16 hc118) (Nat.le_refl _) ?_
  obtain ⟨⟨xs120, x121⟩, h122, hd123⟩ := bnd_some hd116
  obtain ⟨_, G129, hc128, p124, c125, rfl, S130, B127⟩ := W_spec_TypeOfRounds fu G104 a0 xs108 l113 xs114 l119 xs120 x121 h122
  have S131 := S106.call S130
  refine DR.w rfl rfl (o_call (vs := [.int .i64 a0, .agg (ints xs108).toArray, .agg (ints xs114).toArray]) rfl Try.call21 hc128) (S130.len) ?_
  refine DR.p rfl rfl (p_move rfl) ?_
  refine DR.p rfl rfl (p_extract rfl rfl) ?_
  refine DR.p rfl rfl (p_extract rfl rfl) ?_
  refine DR.p rfl rfl (p_assign rfl) ?_
  refine DR.p rfl rfl (p_assign rfl) ?_
  refine DR.nil 11 [(3, 2)] hst (by kernel_rfl) ⟨(rdN (fun _ => rfl)), trivial⟩ ?_
  refine AX.seq ?_
  refine DR.startS [false, false, true, false, true, true, false, false, false, false, false] mix (by kernel_rfl) (fun hst => ?_)
  refine DR.p rfl rfl (p_move rfl) ?_
  refine DR.r rfl rfl (r_loadN (vs := ints a1) rfl Try.isAgg22 Try.sizeOf22 (ints_len h_a1)) (many_row (row_cells (S131.get (k := 2) rfl)) bel_ints) ?_
  obtain ⟨xs132, h133, hd134⟩ := bnd_some hd123
  obtain ⟨hc136, l137⟩ := W_laws_toRound fu G129 a1 h_a1 xs132 h133
  refine DR.w rfl rfl (o_call (vs := [.agg (ints a1).toArray]) rfl Try.call16 hc136) (Nat.le_refl _) ?_
  refine DR.r rfl rfl (r_loadN (vs := ints a2) rfl Try.isAgg22 Try.sizeOf22 (ints_len h_a2)) (many_row (row_cells (S131.get (k := 1) rfl)) bel_ints) ?_
  obtain ⟨xs138, h139, hd140⟩ := bnd_some hd134
  obtain ⟨hc142, l143⟩ := W_laws_toRound fu G129 a2 h_a2 xs138 h139
  refine DR.w rfl rfl (o_call (vs := [.agg (ints a2).toArray]) rfl Try.call16 hc142) (Nat.le_refl _) ?_
  obtain ⟨⟨xs144, x145⟩, h146, hd147⟩ := bnd_some hd140
  obtain ⟨_, G153, hc152, p148, c149, rfl, S154, B151⟩ := W_impl_TypeOfRounds fu G129 a0 xs132 l137 xs138 l143 xs144 x145 h146
  have S155 := S131.call S154
  refine DR.w rfl rfl (o_call (vs := [.int .i64 a0, .agg (ints xs132).toArray, .agg (ints xs138).toArray]) rfl Try.call22 hc152) (S154.len) ?_
  refine DR.p rfl rfl (p_move rfl) ?_
  refine DR.p rfl rfl (p_extract rfl rfl) ?_
  refine DR.p rfl rfl (p_extract rfl rfl) ?_
  refine DR.p rfl rfl (p_assign rfl) ?_
  refine DR.p rfl rfl (p_assign rfl) ?_
  refine DR.nil 11 [(3, 2)] hst (by kernel_rfl) ⟨(rdN (fun _ => rfl)), trivial⟩ ?_
  refine AX.seq ?_
  obtain ⟨r168, hb169, hd170⟩ := bnd_some hd147
  refine AX.cut (fun t' H' => ∃ (b167 : Bool), b167 = r168 ∧ St [] H H' [[(i101, AObj.row false (ints a1))], [(i105, AObj.row false (ints a2))], oseg p124 (ints xs120), oseg p148 (ints xs144)] ∧ Am.Sub [(0, .int .i64 a0), (4, .pointer (some ⟨i101, 0, none⟩)), (5, .pointer (some ⟨i105, 0, none⟩)), (7, .slice p124 xs120.length c125), (8, .int .i64 x121), (9, .slice p148 xs144.length c149), (41, .bool b167)] t') ?_ ?_
  · skip
    refine AX.region ?_
    refine AO.p rfl (p_move rfl) ?_
    refine AO.p rfl (p_move rfl) ?_
    obtain ⟨b171, h172, hd173⟩ := bnd_some hb169
    refine AO.c rfl (o_call (vs := [.slice p148 xs144.length c149, .slice p124 xs120.length c125]) rfl Try.call23 (W_laws_eqInt64S fu G153 p148 c149 xs144 (S155.oview (k := 0) rfl B151 (ints_len1 rfl)) p124 c125 xs120 (S155.oview (k := 1) rfl B127 (ints_len1 rfl)) b171 h172)) ?_
    refine AO.p rfl (p_not rfl) ?_
    refine AO.p rfl (p_move rfl) ?_
    refine AO.cases (d := 37) rfl (fun c175 => ?_) (fun c175 => ?_)
    · have hd176 := bif_t c175 hd173
      refine AO.gn rfl rfl rfl ?_
      refine AO.gn rfl rfl rfl ?_
      refine AO.gn rfl rfl rfl ?_
      refine AO.p rfl (p_pickT rfl rfl) ?_
      refine AO.nil ?_
      have S177 := S155.front 0 rfl
      have S178 := S177.front 1 rfl
      have S179 := S178.front 2 rfl
      have S180 := S179.front 3 rfl
      exact ⟨true, (some_inj hd176), S180, Sub.cons' rfl rfl (Sub.cons' rfl rfl (Sub.cons' rfl rfl (Sub.cons' rfl rfl (Sub.cons' rfl rfl (Sub.cons' rfl rfl (Sub.cons' rfl rfl (Sub.nil _)))))))⟩
    · have hd181 := bif_f c175 hd173
      refine AO.gp rfl rfl rfl (p_move rfl) ?_
      refine AO.gp rfl rfl rfl (p_move rfl) ?_
      refine AO.gp rfl rfl rfl (p_neq rfl rfl) ?_
      refine AO.p rfl (p_pickF rfl rfl) ?_
      refine AO.nil ?_
      have S182 := S155.front 0 rfl
      have S183 := S182.front 1 rfl
      have S184 := S183.front 2 rfl
      have S185 := S184.front 3 rfl
      exact ⟨(!decide (x145 = x121)), (some_inj hd181), S185, Sub.cons' rfl rfl (Sub.cons' rfl rfl (Sub.cons' rfl rfl (Sub.cons' rfl rfl (Sub.cons' rfl rfl (Sub.cons' rfl rfl (Sub.cons' rfl rfl (Sub.nil _)))))))⟩
  · rintro t' G187 ⟨b167, rfl, S186, hsub188⟩
    refine AX.sub hsub188 ?_
    refine AX.cond rfl (fun c189 => ?_) (fun c189 => ?_)
    · have hd190 := bif_t c189 hd170
      refine AX.seq ?_
      refine AX.region ?_
      refine AO.p rfl (p_assign rfl) ?_
      refine AO.nil ?_
      refine AX.ret ?_
      obtain rfl := some_inj hd190
      exact ⟨.inr rfl, _, res1 rfl (rv_tmp rfl), rfl, (flatB_ok rfl), S186.hold⟩
    · have hd191 := bif_f c189 hd170
      refine AX.skip ?_
      refine AX.seq ?_
      refine AX.region ?_
      refine AO.p rfl (p_assign rfl) ?_
      refine AO.nil ?_
      refine AX.seq ?_
      refine AX.region ?_
      refine AO.p rfl (p_move rfl) ?_
      refine AO.p rfl (p_move rfl) ?_
      have S192 := S186.front 3 rfl
      obtain ⟨⟨x193, xs194⟩, h195, hd196⟩ := bnd_some hd191
      obtain ⟨_, G199, hc198, rfl, S200, l197⟩ := W_laws_markInt64S fu G187 p148 c149 xs144 B151 1 (S192.onodup (k := 0) rfl) (S192.omem (k := 0) rfl) x193 xs194 h195
      have S201 := St.callM (A := [oseg p148 (ints xs144)]) S192 S200 (by simp)
      refine AO.c rfl (o_call (vs := [.slice p148 xs144.length c149, .int .i64 1]) rfl Try.call24 hc198) ?_
      refine AO.p rfl (p_assign rfl) ?_
      refine AO.nil ?_
      refine AX.seq ?_
      refine AX.region ?_
      refine AO.p rfl (p_assign rfl) ?_
      refine AO.nil ?_
      refine AX.seq ?_
      refine AX.region ?_
      refine AO.p rfl (p_move rfl) ?_
      refine AO.p rfl (p_move rfl) ?_
      obtain ⟨x202, h203, hd204⟩ := bnd_some hd196
      refine AO.c rfl (o_call (vs := [.slice p148 xs144.length c149, .int .i64 1]) rfl Try.call25 (by have h' := W_laws_heldInt64S fu G199 p148 c149 xs194 (by rw [show List.length xs194 = xs144.length from l197]; exact (S201.oview (k := 0) rfl B151 (ints_len1 l197))) 1 x202 h203; rw [show List.length xs194 = xs144.length from l197] at h'; exact h')) ?_
      refine AO.p rfl (p_assign rfl) ?_
      refine AO.nil ?_
      refine AX.seq ?_
      refine AX.seq ?_
      refine AX.region ?_
      refine AO.p rfl (p_move rfl) ?_
      refine AO.p rfl (p_lss rfl rfl) ?_
      refine AO.nil ?_
      refine AX.cond rfl (fun c206 => ?_) (fun c206 => ?_)
      · have hd207 := bif_t c206 hd204
        refine AX.seq ?_
        refine AX.region ?_
        refine AO.p rfl (p_assign rfl) ?_
        refine AO.nil ?_
        refine AX.ret ?_
        obtain rfl := some_inj hd207
        exact ⟨.inr rfl, _, res1 rfl (rv_tmp rfl), rfl, (flatB_ok rfl), S201.hold⟩
      · have hd208 := bif_f c206 hd204
        refine AX.skip ?_
        refine AX.seq ?_
        refine AX.seq ?_
        refine AX.region ?_
        refine AO.p rfl (p_move rfl) ?_
        refine AO.p rfl (p_move rfl) ?_
        refine AO.p rfl (p_neq rfl rfl) ?_
        refine AO.nil ?_
        refine AX.cond rfl (fun c209 => ?_) (fun c209 => ?_)
        · have hd210 := bif_t c209 hd208
          refine AX.seq ?_
          refine AX.region ?_
          refine AO.p rfl (p_assign rfl) ?_
          refine AO.nil ?_
          refine AX.ret ?_
          obtain rfl := some_inj hd210
          exact ⟨.inr rfl, _, res1 rfl (rv_tmp rfl), rfl, (flatB_ok rfl), S201.hold⟩
        · have hd211 := bif_f c209 hd208
          refine AX.skip ?_
          refine AX.seq ?_
          refine DR.startS [false, false, true, false, true, true, false, false, false, false, false] mix (by kernel_rfl) (fun hst => ?_)
          refine DR.p rfl rfl (p_move rfl) ?_
          refine DR.r rfl rfl (r_loadN (vs := ints a1) rfl Try.isAgg22 Try.sizeOf22 (ints_len h_a1)) (many_row (row_cells (S201.get (k := 1) rfl)) bel_ints) ?_
          obtain ⟨xs212, h213, hd214⟩ := bnd_some hd211
          obtain ⟨hc216, l217⟩ := W_laws_toRound fu G199 a1 h_a1 xs212 h213
          refine DR.w rfl rfl (o_call (vs := [.agg (ints a1).toArray]) rfl Try.call16 hc216) (Nat.le_refl _) ?_
          refine DR.r rfl rfl (r_loadN (vs := ints a2) rfl Try.isAgg22 Try.sizeOf22 (ints_len h_a2)) (many_row (row_cells (S201.get (k := 2) rfl)) bel_ints) ?_
          obtain ⟨xs218, h219, hd220⟩ := bnd_some hd214
          obtain ⟨hc222, l223⟩ := W_laws_toRound fu G199 a2 h_a2 xs218 h219
          refine DR.w rfl rfl (o_call (vs := [.agg (ints a2).toArray]) rfl Try.call16 hc222) (Nat.le_refl _) ?_
          obtain ⟨⟨xs224, x225⟩, h226, hd227⟩ := bnd_some hd220
          obtain ⟨_, G233, hc232, p228, c229, rfl, S234, B231⟩ := W_impl_TypeOfRounds fu G199 a0 xs212 l217 xs218 l223 xs224 x225 h226
          have S235 := S201.call S234
          refine DR.w rfl rfl (o_call (vs := [.int .i64 a0, .agg (ints xs212).toArray, .agg (ints xs218).toArray]) rfl Try.call22 hc232) (S234.len) ?_
          refine DR.p rfl rfl (p_move rfl) ?_
          refine DR.p rfl rfl (p_extract rfl rfl) ?_
          refine DR.p rfl rfl (p_extract rfl rfl) ?_
          refine DR.p rfl rfl (p_assign rfl) ?_
          refine DR.p rfl rfl (p_assign rfl) ?_
          refine DR.nil 11 [(3, 2)] hst (by kernel_rfl) ⟨(rdN (fun _ => rfl)), trivial⟩ ?_
          refine AX.seq ?_
          obtain ⟨r245, hb246, hd247⟩ := bnd_some hd227
          refine AX.cut (fun t' H' => ∃ (b244 : Bool), b244 = r245 ∧ St [] H H' [oseg p148 (ints xs194)] ∧ Am.Sub [(9, .slice p148 xs144.length c149), (11, .int .i64 x193), (70, .bool b244)] t') ?_ ?_
          · skip
            refine AX.region ?_
            refine AO.p rfl (p_move rfl) ?_
            refine AO.p rfl (p_move rfl) ?_
            obtain ⟨b248, h249, hd250⟩ := bnd_some hb246
            refine AO.c rfl (o_call (vs := [.slice p228 xs224.length c229, .slice p124 xs120.length c125]) rfl Try.call23 (W_laws_eqInt64S fu G233 p228 c229 xs224 (S235.oview (k := 0) rfl B231 (ints_len1 rfl)) p124 c125 xs120 (S235.oview (k := 4) rfl B127 (ints_len1 rfl)) b248 h249)) ?_
            refine AO.p rfl (p_not rfl) ?_
            refine AO.p rfl (p_move rfl) ?_
            refine AO.cases (d := 66) rfl (fun c252 => ?_) (fun c252 => ?_)
            · have hd253 := bif_t c252 hd250
              refine AO.gn rfl rfl rfl ?_
              refine AO.gn rfl rfl rfl ?_
              refine AO.gn rfl rfl rfl ?_
              refine AO.p rfl (p_pickT rfl rfl) ?_
              refine AO.nil ?_
              have S254 := S235.front 1 rfl
              have S255 := S254.keep 1
              exact ⟨true, (some_inj hd253), S255, Sub.cons' rfl rfl (Sub.cons' rfl rfl (Sub.cons' rfl rfl (Sub.nil _)))⟩
            · have hd256 := bif_f c252 hd250
              refine AO.gp rfl rfl rfl (p_move rfl) ?_
              refine AO.gp rfl rfl rfl (p_move rfl) ?_
              refine AO.gp rfl rfl rfl (p_neq rfl rfl) ?_
              refine AO.p rfl (p_pickF rfl rfl) ?_
              refine AO.nil ?_
              have S257 := S235.front 1 rfl
              have S258 := S257.keep 1
              exact ⟨(!decide (x225 = x121)), (some_inj hd256), S258, Sub.cons' rfl rfl (Sub.cons' rfl rfl (Sub.cons' rfl rfl (Sub.nil _)))⟩
          · rintro t' G260 ⟨b244, rfl, S259, hsub261⟩
            refine AX.sub hsub261 ?_
            refine AX.cond rfl (fun c262 => ?_) (fun c262 => ?_)
            · have hd263 := bif_t c262 hd247
              refine AX.seq ?_
              refine AX.region ?_
              refine AO.p rfl (p_assign rfl) ?_
              refine AO.nil ?_
              refine AX.ret ?_
              obtain rfl := some_inj hd263
              exact ⟨.inr rfl, _, res1 rfl (rv_tmp rfl), rfl, (flatB_ok rfl), S259.hold⟩
            · have hd264 := bif_f c262 hd247
              refine AX.skip ?_
              refine AX.seq ?_
              refine AX.region ?_
              refine AO.p rfl (p_assign rfl) ?_
              refine AO.nil ?_
              refine AX.seq ?_
              refine AX.region ?_
              refine AO.p rfl (p_move rfl) ?_
              refine AO.p rfl (p_move rfl) ?_
              obtain ⟨x265, h266, hd267⟩ := bnd_some hd264
              refine AO.c rfl (o_call (vs := [.slice p148 xs144.length c149, .int .i64 1]) rfl Try.call25 (by have h' := W_laws_heldInt64S fu G260 p148 c149 xs194 (by rw [show List.length xs194 = xs144.length from l197]; exact (S259.oview (k := 0) rfl B151 (ints_len1 l197))) 1 x265 h266; rw [show List.length xs194 = xs144.length from l197] at h'; exact h')) ?_
              refine AO.p rfl (p_assign rfl) ?_
              refine AO.nil ?_
              refine AX.seq ?_
              refine AX.seq ?_
              refine AX.region ?_
              refine AO.p rfl (p_move rfl) ?_
              refine AO.p rfl (p_lss rfl rfl) ?_
              refine AO.nil ?_
              refine AX.cond rfl (fun c269 => ?_) (fun c269 => ?_)
              · have hd270 := bif_t c269 hd267
                refine AX.seq ?_
                refine AX.region ?_
                refine AO.p rfl (p_assign rfl) ?_
                refine AO.nil ?_
                refine AX.ret ?_
                obtain rfl := some_inj hd270
                exact ⟨.inr rfl, _, res1 rfl (rv_tmp rfl), rfl, (flatB_ok rfl), S259.hold⟩
              · have hd271 := bif_f c269 hd267
                refine AX.skip ?_
                refine AX.seq ?_
                refine AX.seq ?_
                refine AX.region ?_
                refine AO.p rfl (p_move rfl) ?_
                refine AO.p rfl (p_move rfl) ?_
                refine AO.p rfl (p_neq rfl rfl) ?_
                refine AO.nil ?_
                refine AX.cond rfl (fun c272 => ?_) (fun c272 => ?_)
                · have hd273 := bif_t c272 hd271
                  refine AX.seq ?_
                  refine AX.region ?_
                  refine AO.p rfl (p_assign rfl) ?_
                  refine AO.nil ?_
                  refine AX.ret ?_
                  obtain rfl := some_inj hd273
                  exact ⟨.inr rfl, _, res1 rfl (rv_tmp rfl), rfl, (flatB_ok rfl), S259.hold⟩
                · have hd274 := bif_f c272 hd271
                  refine AX.skip ?_
                  refine AX.seq ?_
                  refine AX.region ?_
                  refine AO.p rfl (p_assign rfl) ?_
                  refine AO.nil ?_
                  refine AX.ret ?_
                  obtain rfl := some_inj hd274
                  exact ⟨.inr rfl, _, res1 rfl (rv_tmp rfl), rfl, (flatB_ok rfl), S259.hold⟩

end Go.Proofs.Ytnmbjedijgcncaa
