/-
  The program computes that, printed by a program. No condition.
-/
import Derived.Test.YtnmbjedijgcncaaDU
import Derived.Test.YtnmbjedijgcncaaWJ
import Derived.Test.YtnmbjedijgcncaaProg
import Derived.KernelRfl
namespace Go.Proofs.Ytnmbjedijgcncaa
open Go Go.RowKit Am
set_option linter.unusedVariables false
set_option linter.unusedSimpArgs false
set_option maxRecDepth 20000
set_option maxHeartbeats 4000000 in
theorem W_laws_FnExactFirstAdder (fu : Nat) (H : AHeap) (a0 : Int) (p_a1 : Option Addr) (c_a1 : Nat) (T_a1 : Tb) (a1 : List (List Int)) (t_a1 : trows T_a1 = a1) (v_a1 : Vw H p_a1 a1.length c_a1 (tcells T_a1)) (w_a1 : TVw H T_a1) (r0 : Bool) (hd : D_laws_FnExactFirstAdder fu a0 a1 = some r0) : ACall Try.prog 7 [.int .i64 a0, .slice p_a1 a1.length c_a1] H (.bool r0) H := by
  refine ACall.bodyP (N := 101) [(0, .int .i64 a0), (1, .slice p_a1 a1.length c_a1)] Try.func7 rfl rfl rfl rfl ?_
  unfold D_laws_FnExactFirstAdder at hd
  have S0 : St [] H H [] := St.nil H
  refine AX.seq ?_
  refine AX.region ?_
  refine AO.p rfl (p_assign rfl) ?_
  refine AO.nil ?_
  refine AX.seq ?_
  refine AX.region ?_
  refine AO.p rfl (p_assign rfl) ?_
  refine AO.nil ?_
  refine AX.seq ?_
  refine AX.region ?_
  refine AO.p rfl (p_move rfl) ?_
  refine AO.p rfl (p_move rfl) ?_
  obtain ⟨x100, h101, hd102⟩ := bnd_some hd
  refine AO.c rfl (o_call (vs := [.slice p_a1 a1.length c_a1, .int .i64 1048576]) rfl Try.call34 (W_laws_szInt64SS fu H p_a1 c_a1 T_a1 a1 t_a1 (S0.view v_a1) (S0.tview w_a1) 1048576 x100 h101)) ?_
  refine AO.p rfl (p_assign rfl) ?_
  refine AO.nil ?_
  refine AX.seq ?_
  refine AX.seq ?_
  refine AX.region ?_
  refine AO.p rfl (p_move rfl) ?_
  refine AO.p rfl (p_lss rfl rfl) ?_
  refine AO.nil ?_
  refine AX.cond rfl (fun c104 => ?_) (fun c104 => ?_)
  · have hd105 := bif_t c104 hd102
    refine AX.seq ?_
    refine AX.region ?_
    refine AO.p rfl (p_assign rfl) ?_
    refine AO.nil ?_
    refine AX.ret ?_
    obtain rfl := some_inj hd105
    exact ⟨.inr rfl, _, res1 rfl (rv_tmp rfl), rfl, (flatB_ok rfl), S0.hold⟩
  · have hd106 := bif_f c104 hd102
    refine AX.skip ?_
    refine AX.seq ?_
    refine AX.region ?_
    refine AO.p rfl (p_move rfl) ?_
    refine AO.p rfl (p_move rfl) ?_
    obtain ⟨rs107, h108, hd109⟩ := bnd_some hd106
    obtain ⟨_, G118, hc117, p110, c111, T114, rfl, S119, B113, t115, s116⟩ := W_laws_toInt64SS fu H p_a1 c_a1 T_a1 a1 t_a1 (S0.view v_a1) (S0.tview w_a1) rs107 h108
    have S120 := S0.call S119
    refine AO.c rfl (o_call (vs := [.slice p_a1 a1.length c_a1]) rfl Try.call36 hc117) ?_
    obtain ⟨⟨xs121, x122⟩, h123, hd124⟩ := bnd_some hd109
    obtain ⟨_, G130, hc129, p125, c126, rfl, S131, B128⟩ := W_spec_FirstAdder fu G118 a0 p110 c111 T114 rs107 t115 (S120.oview (k := 0) rfl B113 (tc_len1 t115 rfl)) (S120.oviewT (k := 1) rfl s116) xs121 x122 h123
    have S132 := S120.call S131
    refine AO.c rfl (o_call (vs := [.int .i64 a0, .slice p110 rs107.length c111]) rfl Try.call35 hc129) ?_
    refine AO.p rfl (p_move rfl) ?_
    refine AO.p rfl (p_extract rfl rfl) ?_
    refine AO.p rfl (p_extract rfl rfl) ?_
    refine AO.p rfl (p_assign rfl) ?_
    refine AO.p rfl (p_assign rfl) ?_
    refine AO.nil ?_
    refine AX.seq ?_
    refine AX.region ?_
    refine AO.p rfl (p_move rfl) ?_
    obtain ⟨rs133, h134, hd135⟩ := bnd_some hd124
    obtain ⟨_, G144, hc143, p136, c137, T140, rfl, S145, B139, t141, s142⟩ := W_laws_toInt64SS fu G130 p_a1 c_a1 T_a1 a1 t_a1 (S132.view v_a1) (S132.tview w_a1) rs133 h134
    have S146 := S132.call S145
    refine AO.c rfl (o_call (vs := [.slice p_a1 a1.length c_a1]) rfl Try.call36 hc143) ?_
    refine AO.p rfl (p_assign rfl) ?_
    refine AO.nil ?_
    refine AX.seq ?_
    refine AX.region ?_
    refine AO.p rfl (p_move rfl) ?_
    refine AO.p rfl (p_move rfl) ?_
    obtain ⟨⟨xs147, x148⟩, h149, hd150⟩ := bnd_some hd135
    obtain ⟨_, G156, hc155, p151, c152, rfl, S157, B154⟩ := W_impl_FirstAdder fu G144 a0 p136 c137 T140 rs133 t141 (S146.oview (k := 0) rfl B139 (tc_len1 t141 rfl)) (S146.oviewT (k := 1) rfl s142) xs147 x148 h149
    have S158 := S146.call S157
    refine AO.c rfl (o_call (vs := [.int .i64 a0, .slice p136 rs133.length c137]) rfl Try.call37 hc155) ?_
    refine AO.p rfl (p_move rfl) ?_
    refine AO.p rfl (p_extract rfl rfl) ?_
    refine AO.p rfl (p_extract rfl rfl) ?_
    refine AO.p rfl (p_assign rfl) ?_
    refine AO.p rfl (p_assign rfl) ?_
    refine AO.nil ?_
    refine AX.seq ?_
    obtain ⟨r170, hb171, hd172⟩ := bnd_some hd150
    refine AX.cut (fun t' H' => ∃ (b169 : Bool), b169 = r170 ∧ St [] H H' [oseg p125 (ints xs121), oseg p136 (tcells T140), tseg T140, oseg p151 (ints xs147)] ∧ Am.Sub [(0, .int .i64 a0), (1, .slice p_a1 a1.length c_a1), (6, .slice p125 xs121.length c126), (7, .int .i64 x122), (8, .slice p136 rs133.length c137), (9, .slice p151 xs147.length c152), (10, .int .i64 x148), (44, .bool b169)] t') ?_ ?_
    · skip
      refine AX.region ?_
      refine AO.p rfl (p_move rfl) ?_
      refine AO.p rfl (p_move rfl) ?_
      obtain ⟨b173, h174, hd175⟩ := bnd_some hb171
      refine AO.c rfl (o_call (vs := [.slice p151 xs147.length c152, .slice p125 xs121.length c126]) rfl Try.call23 (W_laws_eqInt64S fu G156 p151 c152 xs147 (S158.oview (k := 0) rfl B154 (ints_len1 rfl)) p125 c126 xs121 (S158.oview (k := 3) rfl B128 (ints_len1 rfl)) b173 h174)) ?_
      refine AO.p rfl (p_not rfl) ?_
      refine AO.p rfl (p_move rfl) ?_
      refine AO.cases (d := 40) rfl (fun c177 => ?_) (fun c177 => ?_)
      · have hd178 := bif_t c177 hd175
        refine AO.gn rfl rfl rfl ?_
        refine AO.gn rfl rfl rfl ?_
        refine AO.gn rfl rfl rfl ?_
        refine AO.p rfl (p_pickT rfl rfl) ?_
        refine AO.nil ?_
        have S179 := S158.front 0 rfl
        have S180 := S179.front 2 rfl
        have S181 := S180.front 2 rfl
        have S182 := S181.front 3 rfl
        have S183 := S182.keep 4
        exact ⟨true, (some_inj hd178), S183, Sub.cons' rfl rfl (Sub.cons' rfl rfl (Sub.cons' rfl rfl (Sub.cons' rfl rfl (Sub.cons' rfl rfl (Sub.cons' rfl rfl (Sub.cons' rfl rfl (Sub.cons' rfl rfl (Sub.nil _))))))))⟩
      · have hd184 := bif_f c177 hd175
        refine AO.gp rfl rfl rfl (p_move rfl) ?_
        refine AO.gp rfl rfl rfl (p_move rfl) ?_
        refine AO.gp rfl rfl rfl (p_neq rfl rfl) ?_
        refine AO.p rfl (p_pickF rfl rfl) ?_
        refine AO.nil ?_
        have S185 := S158.front 0 rfl
        have S186 := S185.front 2 rfl
        have S187 := S186.front 2 rfl
        have S188 := S187.front 3 rfl
        have S189 := S188.keep 4
        exact ⟨(!decide (x148 = x122)), (some_inj hd184), S189, Sub.cons' rfl rfl (Sub.cons' rfl rfl (Sub.cons' rfl rfl (Sub.cons' rfl rfl (Sub.cons' rfl rfl (Sub.cons' rfl rfl (Sub.cons' rfl rfl (Sub.cons' rfl rfl (Sub.nil _))))))))⟩
    · rintro t' G191 ⟨b169, rfl, S190, hsub192⟩
      refine AX.sub hsub192 ?_
      refine AX.cond rfl (fun c193 => ?_) (fun c193 => ?_)
      · have hd194 := bif_t c193 hd172
        refine AX.seq ?_
        refine AX.region ?_
        refine AO.p rfl (p_assign rfl) ?_
        refine AO.nil ?_
        refine AX.ret ?_
        obtain rfl := some_inj hd194
        exact ⟨.inr rfl, _, res1 rfl (rv_tmp rfl), rfl, (flatB_ok rfl), S190.hold⟩
      · have hd195 := bif_f c193 hd172
        refine AX.skip ?_
        refine AX.seq ?_
        refine AX.seq ?_
        refine AX.region ?_
        refine AO.p rfl (p_move rfl) ?_
        refine AO.p rfl (p_move rfl) ?_
        obtain ⟨rs196, h197, hd198⟩ := bnd_some hd195
        obtain ⟨_, G207, hc206, p199, c200, T203, rfl, S208, B202, t204, s205⟩ := W_laws_toInt64SS fu G191 p_a1 c_a1 T_a1 a1 t_a1 (S190.view v_a1) (S190.tview w_a1) rs196 h197
        have S209 := S190.call S208
        refine AO.c rfl (o_call (vs := [.slice p_a1 a1.length c_a1]) rfl Try.call36 hc206) ?_
        obtain ⟨b210, h211, hd212⟩ := bnd_some hd198
        refine AO.c rfl (o_call (vs := [.slice p136 rs133.length c137, .slice p199 rs196.length c200]) rfl Try.call18 (W_laws_eqInt64SS fu G207 p136 c137 T140 rs133 t141 (S209.oview (k := 3) rfl B139 (tc_len1 t141 rfl)) (S209.oviewT (k := 4) rfl s142) p199 c200 T203 rs196 t204 (S209.oview (k := 0) rfl B202 (tc_len1 t204 rfl)) (S209.oviewT (k := 1) rfl s205) b210 h211)) ?_
        refine AO.p rfl (p_not rfl) ?_
        refine AO.nil ?_
        refine AX.cond rfl (fun c214 => ?_) (fun c214 => ?_)
        · have hd215 := bif_t c214 hd212
          refine AX.seq ?_
          refine AX.region ?_
          refine AO.p rfl (p_assign rfl) ?_
          refine AO.nil ?_
          refine AX.ret ?_
          obtain rfl := some_inj hd215
          exact ⟨.inr rfl, _, res1 rfl (rv_tmp rfl), rfl, (flatB_ok rfl), S209.hold⟩
        · have hd216 := bif_f c214 hd212
          refine AX.skip ?_
          refine AX.seq ?_
          refine AX.region ?_
          refine AO.p rfl (p_assign rfl) ?_
          refine AO.nil ?_
          refine AX.seq ?_
          refine AX.region ?_
          refine AO.p rfl (p_move rfl) ?_
          refine AO.p rfl (p_move rfl) ?_
          have S217 := S209.front 4 rfl
          have S218 := S217.front 4 rfl
          obtain ⟨⟨x219, rs220⟩, h221, hd222⟩ := bnd_some hd216
          obtain ⟨_, G228, hc227, T223, rfl, S229, t224, s225, l226⟩ := W_laws_markInt64SS fu G207 p136 c137 T140 rs133 t141 B139 s142 1 ((S218).join2.onodup (k := 0) rfl) ((S218).join2.omem (k := 0) rfl) x219 rs220 h221
          have S230 := St.callM (A := [oseg p136 (tcells T140), tseg T140]) S218 S229 (by simp)
          refine AO.c rfl (o_call (vs := [.slice p136 rs133.length c137, .int .i64 1]) rfl Try.call19 hc227) ?_
          refine AO.p rfl (p_assign rfl) ?_
          refine AO.nil ?_
          refine AX.seq ?_
          obtain ⟨r244, hb245, hd246⟩ := bnd_some hd222
          refine AX.cut (fun t' H' => ∃ (b243 : Bool), b243 = r244 ∧ St [] H H' [oseg p125 (ints xs121), oseg p151 (ints xs147)] ∧ Am.Sub [(0, .int .i64 a0), (1, .slice p_a1 a1.length c_a1), (6, .slice p125 xs121.length c126), (7, .int .i64 x122), (9, .slice p151 xs147.length c152), (65, .bool b243)] t') ?_ ?_
          · skip
            refine AX.region ?_
            refine AO.p rfl (p_move rfl) ?_
            refine AO.p rfl (p_lss rfl rfl) ?_
            refine AO.p rfl (p_move rfl) ?_
            refine AO.cases (d := 55) rfl (fun c247 => ?_) (fun c247 => ?_)
            · have hd248 := bif_t c247 hb245
              refine AO.gn rfl rfl rfl ?_
              refine AO.gn rfl rfl rfl ?_
              refine AO.gn rfl rfl rfl ?_
              refine AO.gn rfl rfl rfl ?_
              refine AO.p rfl (p_pickT rfl rfl) ?_
              refine AO.p rfl (p_move rfl) ?_
              refine AO.gn rfl rfl rfl ?_
              refine AO.gn rfl rfl rfl ?_
              refine AO.gn rfl rfl rfl ?_
              refine AO.p rfl (p_pickT rfl rfl) ?_
              refine AO.nil ?_
              have S249 := S230.front 5 rfl
              have S250 := S249.front 5 rfl
              have S251 := S250.keep 2
              exact ⟨true, (some_inj hd248), S251, Sub.cons' rfl rfl (Sub.cons' rfl rfl (Sub.cons' rfl rfl (Sub.cons' rfl rfl (Sub.cons' rfl rfl (Sub.cons' rfl rfl (Sub.nil _))))))⟩
            · have hd252 := bif_f c247 hb245
              refine AO.gp rfl rfl rfl (p_move rfl) ?_
              refine AO.gp rfl rfl rfl (p_move rfl) ?_
              obtain ⟨b253, h254, hd255⟩ := bnd_some hd252
              refine AO.gc rfl rfl rfl (o_call (vs := [.slice p151 xs147.length c152, .slice p125 xs121.length c126]) rfl Try.call23 (W_laws_eqInt64S fu G228 p151 c152 xs147 (S230.oview (k := 5) rfl B154 (ints_len1 rfl)) p125 c126 xs121 (S230.oview (k := 4) rfl B128 (ints_len1 rfl)) b253 h254)) ?_
              refine AO.gp rfl rfl rfl (p_not rfl) ?_
              refine AO.p rfl (p_pickF rfl rfl) ?_
              refine AO.p rfl (p_move rfl) ?_
              refine AO.cases (d := 61) rfl (fun c257 => ?_) (fun c257 => ?_)
              · have hd258 := bif_t c257 hd255
                refine AO.gn rfl rfl rfl ?_
                refine AO.gn rfl rfl rfl ?_
                refine AO.gn rfl rfl rfl ?_
                refine AO.p rfl (p_pickT rfl rfl) ?_
                refine AO.nil ?_
                have S259 := S230.front 5 rfl
                have S260 := S259.front 5 rfl
                have S261 := S260.keep 2
                exact ⟨true, (some_inj hd258), S261, Sub.cons' rfl rfl (Sub.cons' rfl rfl (Sub.cons' rfl rfl (Sub.cons' rfl rfl (Sub.cons' rfl rfl (Sub.cons' rfl rfl (Sub.nil _))))))⟩
              · have hd262 := bif_f c257 hd255
                refine AO.gp rfl rfl rfl (p_move rfl) ?_
                refine AO.gp rfl rfl rfl (p_move rfl) ?_
                refine AO.gp rfl rfl rfl (p_neq rfl rfl) ?_
                refine AO.p rfl (p_pickF rfl rfl) ?_
                refine AO.nil ?_
                have S263 := S230.front 5 rfl
                have S264 := S263.front 5 rfl
                have S265 := S264.keep 2
                exact ⟨(!decide (x148 = x122)), (some_inj hd262), S265, Sub.cons' rfl rfl (Sub.cons' rfl rfl (Sub.cons' rfl rfl (Sub.cons' rfl rfl (Sub.cons' rfl rfl (Sub.cons' rfl rfl (Sub.nil _))))))⟩
          · rintro t' G267 ⟨b243, rfl, S266, hsub268⟩
            refine AX.sub hsub268 ?_
            refine AX.cond rfl (fun c269 => ?_) (fun c269 => ?_)
            · have hd270 := bif_t c269 hd246
              refine AX.seq ?_
              refine AX.region ?_
              refine AO.p rfl (p_assign rfl) ?_
              refine AO.nil ?_
              refine AX.ret ?_
              obtain rfl := some_inj hd270
              exact ⟨.inr rfl, _, res1 rfl (rv_tmp rfl), rfl, (flatB_ok rfl), S266.hold⟩
            · have hd271 := bif_f c269 hd246
              refine AX.skip ?_
              refine AX.seq ?_
              refine AX.region ?_
              refine AO.p rfl (p_assign rfl) ?_
              refine AO.nil ?_
              refine AX.seq ?_
              refine AX.region ?_
              refine AO.p rfl (p_move rfl) ?_
              refine AO.p rfl (p_move rfl) ?_
              have S272 := S266.front 1 rfl
              obtain ⟨⟨x273, xs274⟩, h275, hd276⟩ := bnd_some hd271
              obtain ⟨_, G279, hc278, rfl, S280, l277⟩ := W_laws_markInt64S fu G267 p151 c152 xs147 B154 1 (S272.onodup (k := 0) rfl) (S272.omem (k := 0) rfl) x273 xs274 h275
              have S281 := St.callM (A := [oseg p151 (ints xs147)]) S272 S280 (by simp)
              refine AO.c rfl (o_call (vs := [.slice p151 xs147.length c152, .int .i64 1]) rfl Try.call24 hc278) ?_
              refine AO.p rfl (p_assign rfl) ?_
              refine AO.nil ?_
              refine AX.seq ?_
              refine AX.region ?_
              refine AO.p rfl (p_assign rfl) ?_
              refine AO.nil ?_
              refine AX.seq ?_
              refine AX.region ?_
              refine AO.p rfl (p_move rfl) ?_
              refine AO.p rfl (p_move rfl) ?_
              obtain ⟨x282, h283, hd284⟩ := bnd_some hd276
              refine AO.c rfl (o_call (vs := [.slice p151 xs147.length c152, .int .i64 1]) rfl Try.call25 (by have h' := W_laws_heldInt64S fu G279 p151 c152 xs274 (by rw [show List.length xs274 = xs147.length from l277]; exact (S281.oview (k := 0) rfl B154 (ints_len1 l277))) 1 x282 h283; rw [show List.length xs274 = xs147.length from l277] at h'; exact h')) ?_
              refine AO.p rfl (p_assign rfl) ?_
              refine AO.nil ?_
              refine AX.seq ?_
              refine AX.seq ?_
              refine AX.region ?_
              refine AO.p rfl (p_move rfl) ?_
              refine AO.p rfl (p_lss rfl rfl) ?_
              refine AO.nil ?_
              refine AX.cond rfl (fun c286 => ?_) (fun c286 => ?_)
              · have hd287 := bif_t c286 hd284
                refine AX.seq ?_
                refine AX.region ?_
                refine AO.p rfl (p_assign rfl) ?_
                refine AO.nil ?_
                refine AX.ret ?_
                obtain rfl := some_inj hd287
                exact ⟨.inr rfl, _, res1 rfl (rv_tmp rfl), rfl, (flatB_ok rfl), S281.hold⟩
              · have hd288 := bif_f c286 hd284
                refine AX.skip ?_
                refine AX.seq ?_
                refine AX.seq ?_
                refine AX.region ?_
                refine AO.p rfl (p_move rfl) ?_
                refine AO.p rfl (p_move rfl) ?_
                refine AO.p rfl (p_neq rfl rfl) ?_
                refine AO.nil ?_
                refine AX.cond rfl (fun c289 => ?_) (fun c289 => ?_)
                · have hd290 := bif_t c289 hd288
                  refine AX.seq ?_
                  refine AX.region ?_
                  refine AO.p rfl (p_assign rfl) ?_
                  refine AO.nil ?_
                  refine AX.ret ?_
                  obtain rfl := some_inj hd290
                  exact ⟨.inr rfl, _, res1 rfl (rv_tmp rfl), rfl, (flatB_ok rfl), S281.hold⟩
                · have hd291 := bif_f c289 hd288
                  refine AX.skip ?_
                  refine AX.seq ?_
                  refine AX.region ?_
                  refine AO.p rfl (p_move rfl) ?_
                  refine AO.p rfl (p_move rfl) ?_
                  obtain ⟨rs292, h293, hd294⟩ := bnd_some hd291
                  obtain ⟨_, G303, hc302, p295, c296, T299, rfl, S304, B298, t300, s301⟩ := W_laws_toInt64SS fu G279 p_a1 c_a1 T_a1 a1 t_a1 (S281.view v_a1) (S281.tview w_a1) rs292 h293
                  have S305 := S281.call S304
                  refine AO.c rfl (o_call (vs := [.slice p_a1 a1.length c_a1]) rfl Try.call36 hc302) ?_
                  obtain ⟨⟨xs306, x307⟩, h308, hd309⟩ := bnd_some hd294
                  obtain ⟨_, G315, hc314, p310, c311, rfl, S316, B313⟩ := W_impl_FirstAdder fu G303 a0 p295 c296 T299 rs292 t300 (S305.oview (k := 0) rfl B298 (tc_len1 t300 rfl)) (S305.oviewT (k := 1) rfl s301) xs306 x307 h308
                  have S317 := S305.call S316
                  refine AO.c rfl (o_call (vs := [.int .i64 a0, .slice p295 rs292.length c296]) rfl Try.call37 hc314) ?_
                  refine AO.p rfl (p_move rfl) ?_
                  refine AO.p rfl (p_extract rfl rfl) ?_
                  refine AO.p rfl (p_extract rfl rfl) ?_
                  refine AO.p rfl (p_assign rfl) ?_
                  refine AO.p rfl (p_assign rfl) ?_
                  refine AO.nil ?_
                  refine AX.seq ?_
                  obtain ⟨r327, hb328, hd329⟩ := bnd_some hd309
                  refine AX.cut (fun t' H' => ∃ (b326 : Bool), b326 = r327 ∧ St [] H H' [oseg p151 (ints xs274)] ∧ Am.Sub [(9, .slice p151 xs147.length c152), (12, .int .i64 x273), (92, .bool b326)] t') ?_ ?_
                  · skip
                    refine AX.region ?_
                    refine AO.p rfl (p_move rfl) ?_
                    refine AO.p rfl (p_move rfl) ?_
                    obtain ⟨b330, h331, hd332⟩ := bnd_some hb328
                    refine AO.c rfl (o_call (vs := [.slice p310 xs306.length c311, .slice p125 xs121.length c126]) rfl Try.call23 (W_laws_eqInt64S fu G315 p310 c311 xs306 (S317.oview (k := 0) rfl B313 (ints_len1 rfl)) p125 c126 xs121 (S317.oview (k := 4) rfl B128 (ints_len1 rfl)) b330 h331)) ?_
                    refine AO.p rfl (p_not rfl) ?_
                    refine AO.p rfl (p_move rfl) ?_
                    refine AO.cases (d := 88) rfl (fun c334 => ?_) (fun c334 => ?_)
                    · have hd335 := bif_t c334 hd332
                      refine AO.gn rfl rfl rfl ?_
                      refine AO.gn rfl rfl rfl ?_
                      refine AO.gn rfl rfl rfl ?_
                      refine AO.p rfl (p_pickT rfl rfl) ?_
                      refine AO.nil ?_
                      have S336 := S317.front 3 rfl
                      have S337 := S336.keep 1
                      exact ⟨true, (some_inj hd335), S337, Sub.cons' rfl rfl (Sub.cons' rfl rfl (Sub.cons' rfl rfl (Sub.nil _)))⟩
                    · have hd338 := bif_f c334 hd332
                      refine AO.gp rfl rfl rfl (p_move rfl) ?_
                      refine AO.gp rfl rfl rfl (p_move rfl) ?_
                      refine AO.gp rfl rfl rfl (p_neq rfl rfl) ?_
                      refine AO.p rfl (p_pickF rfl rfl) ?_
                      refine AO.nil ?_
                      have S339 := S317.front 3 rfl
                      have S340 := S339.keep 1
                      exact ⟨(!decide (x307 = x122)), (some_inj hd338), S340, Sub.cons' rfl rfl (Sub.cons' rfl rfl (Sub.cons' rfl rfl (Sub.nil _)))⟩
                  · rintro t' G342 ⟨b326, rfl, S341, hsub343⟩
                    refine AX.sub hsub343 ?_
                    refine AX.cond rfl (fun c344 => ?_) (fun c344 => ?_)
                    · have hd345 := bif_t c344 hd329
                      refine AX.seq ?_
                      refine AX.region ?_
                      refine AO.p rfl (p_assign rfl) ?_
                      refine AO.nil ?_
                      refine AX.ret ?_
                      obtain rfl := some_inj hd345
                      exact ⟨.inr rfl, _, res1 rfl (rv_tmp rfl), rfl, (flatB_ok rfl), S341.hold⟩
                    · have hd346 := bif_f c344 hd329
                      refine AX.skip ?_
                      refine AX.seq ?_
                      refine AX.region ?_
                      refine AO.p rfl (p_assign rfl) ?_
                      refine AO.nil ?_
                      refine AX.seq ?_
                      refine AX.region ?_
                      refine AO.p rfl (p_move rfl) ?_
                      refine AO.p rfl (p_move rfl) ?_
                      obtain ⟨x347, h348, hd349⟩ := bnd_some hd346
                      refine AO.c rfl (o_call (vs := [.slice p151 xs147.length c152, .int .i64 1]) rfl Try.call25 (by have h' := W_laws_heldInt64S fu G342 p151 c152 xs274 (by rw [show List.length xs274 = xs147.length from l277]; exact (S341.oview (k := 0) rfl B154 (ints_len1 l277))) 1 x347 h348; rw [show List.length xs274 = xs147.length from l277] at h'; exact h')) ?_
                      refine AO.p rfl (p_assign rfl) ?_
                      refine AO.nil ?_
                      refine AX.seq ?_
                      refine AX.seq ?_
                      refine AX.region ?_
                      refine AO.p rfl (p_move rfl) ?_
                      refine AO.p rfl (p_lss rfl rfl) ?_
                      refine AO.nil ?_
                      refine AX.cond rfl (fun c351 => ?_) (fun c351 => ?_)
                      · have hd352 := bif_t c351 hd349
                        refine AX.seq ?_
                        refine AX.region ?_
                        refine AO.p rfl (p_assign rfl) ?_
                        refine AO.nil ?_
                        refine AX.ret ?_
                        obtain rfl := some_inj hd352
                        exact ⟨.inr rfl, _, res1 rfl (rv_tmp rfl), rfl, (flatB_ok rfl), S341.hold⟩
                      · have hd353 := bif_f c351 hd349
                        refine AX.skip ?_
                        refine AX.seq ?_
                        refine AX.seq ?_
                        refine AX.region ?_
                        refine AO.p rfl (p_move rfl) ?_
                        refine AO.p rfl (p_move rfl) ?_
                        refine AO.p rfl (p_neq rfl rfl) ?_
                        refine AO.nil ?_
                        refine AX.cond rfl (fun c354 => ?_) (fun c354 => ?_)
                        · have hd355 := bif_t c354 hd353
                          refine AX.seq ?_
                          refine AX.region ?_
                          refine AO.p rfl (p_assign rfl) ?_
                          refine AO.nil ?_
                          refine AX.ret ?_
                          obtain rfl := some_inj hd355
                          exact ⟨.inr rfl, _, res1 rfl (rv_tmp rfl), rfl, (flatB_ok rfl), S341.hold⟩
                        · have hd356 := bif_f c354 hd353
                          refine AX.skip ?_
                          refine AX.seq ?_
                          refine AX.region ?_
                          refine AO.p rfl (p_assign rfl) ?_
                          refine AO.nil ?_
                          refine AX.ret ?_
                          obtain rfl := some_inj hd356
                          exact ⟨.inr rfl, _, res1 rfl (rv_tmp rfl), rfl, (flatB_ok rfl), S341.hold⟩

end Go.Proofs.Ytnmbjedijgcncaa
