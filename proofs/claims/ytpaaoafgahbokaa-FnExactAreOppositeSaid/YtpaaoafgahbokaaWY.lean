/-
  The program computes that, printed by a program. No condition.
-/
import Derived.Test.YtpaaoafgahbokaaDY
import Derived.Test.YtpaaoafgahbokaaWQ
import Derived.Test.YtpaaoafgahbokaaProg
import Derived.KernelRfl
namespace Go.Proofs.Ytpaaoafgahbokaa
open Go Go.RowKit Am
set_option linter.unusedVariables false
set_option linter.unusedSimpArgs false
set_option maxRecDepth 20000
set_option maxHeartbeats 4000000 in
theorem W_laws_FnExactAreOpposite (fu : Nat) (H : AHeap) (a0_0 : Int) (p_a0_1 : Option Addr) (c_a0_1 : Nat) (a0_1 : List (List Int)) (a_a0_1 : All 14 a0_1) (v_a0_1 : Vw H p_a0_1 a0_1.length c_a0_1 (ints a0_1.flatten)) (p_a1 : Option Addr) (c_a1 : Nat) (T_a1 : Tb) (a1 : List (List Int)) (t_a1 : trows T_a1 = a1) (v_a1 : Vw H p_a1 a1.length c_a1 (tcells T_a1)) (w_a1 : TVw H T_a1) (a2 : Int) (a3 : Int) (r0 : Bool) (hd : D_laws_FnExactAreOpposite fu a0_0 a0_1 a1 a2 a3 = some r0) : ACall Try.prog 10 [.agg [.int .i64 a0_0, .slice p_a0_1 a0_1.length c_a0_1].toArray, .slice p_a1 a1.length c_a1, .int .i64 a2, .int .i64 a3] H (.bool r0) H := by
  refine ACall.bodyP (N := 66) [(0, .agg [.int .i64 a0_0, .slice p_a0_1 a0_1.length c_a0_1].toArray), (1, .slice p_a1 a1.length c_a1), (2, .int .i64 a2), (3, .int .i64 a3)] Try.func10 rfl rfl rfl rfl ?_
  unfold D_laws_FnExactAreOpposite at hd
  have S0 : St [] H H [] := St.nil H
  refine AX.seq ?_
  refine AX.region ?_
  obtain ⟨G100, i101, hii101, hHG100, S102⟩ := S0.new (AObj.row false ([.int .i64 a0_0, .slice p_a0_1 a0_1.length c_a0_1]))
  refine AO.c rfl (s_box (i := i101) (cs := [.int .i64 a0_0, .slice p_a0_1 a0_1.length c_a0_1]) rfl hii101 rfl hHG100) ?_
  refine AO.p rfl (p_assign rfl) ?_
  refine AO.nil ?_
  refine AX.seq ?_
  refine AX.region ?_
  refine AO.p rfl (p_assign rfl) ?_
  refine AO.nil ?_
  refine AX.seq ?_
  refine AX.region ?_
  refine AO.c rfl (s_loadN (vs := [.int .i64 a0_0, .slice p_a0_1 a0_1.length c_a0_1]) Try.isAgg35 Try.sizeOf35 rfl rfl (row_cells (S102.get (k := 0) rfl))) ?_
  refine AO.p rfl (p_move rfl) ?_
  obtain ⟨x104, h105, hd106⟩ := bnd_some hd
  refine AO.c rfl (o_call (vs := [.agg [.int .i64 a0_0, .slice p_a0_1 a0_1.length c_a0_1].toArray, .int .i64 1048576]) rfl Try.call22 (W_laws_szSchedule fu G100 a0_0 p_a0_1 c_a0_1 a0_1 a_a0_1 (S102.view v_a0_1) 1048576 x104 h105)) ?_
  refine AO.p rfl (p_assign rfl) ?_
  refine AO.nil ?_
  refine AX.seq ?_
  refine AX.seq ?_
  refine AX.region ?_
  refine AO.p rfl (p_move rfl) ?_
  refine AO.p rfl (p_lss rfl rfl) ?_
  refine AO.nil ?_
  refine AX.cond rfl (fun c108 => ?_) (fun c108 => ?_)
  · have hd109 := bif_t c108 hd106
    refine AX.seq ?_
    refine AX.region ?_
    refine AO.p rfl (p_assign rfl) ?_
    refine AO.nil ?_
    refine AX.ret ?_
    obtain rfl := some_inj hd109
    exact ⟨.inr rfl, _, res1 rfl (rv_tmp rfl), rfl, (flatB_ok rfl), S102.hold⟩
  · have hd110 := bif_f c108 hd106
    refine AX.skip ?_
    refine AX.seq ?_
    refine AX.region ?_
    refine AO.p rfl (p_move rfl) ?_
    refine AO.p rfl (p_move rfl) ?_
    obtain ⟨x111, h112, hd113⟩ := bnd_some hd110
    refine AO.c rfl (o_call (vs := [.slice p_a1 a1.length c_a1, .int .i64 x104]) rfl Try.call34 (W_laws_szInt64SS fu G100 p_a1 c_a1 T_a1 a1 t_a1 (S102.view v_a1) (S102.tview w_a1) x104 x111 h112)) ?_
    refine AO.p rfl (p_assign rfl) ?_
    refine AO.nil ?_
    refine AX.seq ?_
    refine AX.seq ?_
    refine AX.region ?_
    refine AO.p rfl (p_move rfl) ?_
    refine AO.p rfl (p_lss rfl rfl) ?_
    refine AO.nil ?_
    refine AX.cond rfl (fun c115 => ?_) (fun c115 => ?_)
    · have hd116 := bif_t c115 hd113
      refine AX.seq ?_
      refine AX.region ?_
      refine AO.p rfl (p_assign rfl) ?_
      refine AO.nil ?_
      refine AX.ret ?_
      obtain rfl := some_inj hd116
      exact ⟨.inr rfl, _, res1 rfl (rv_tmp rfl), rfl, (flatB_ok rfl), S102.hold⟩
    · have hd117 := bif_f c115 hd113
      refine AX.skip ?_
      refine AX.seq ?_
      refine AX.region ?_
      refine AO.c rfl (s_loadN (vs := [.int .i64 a0_0, .slice p_a0_1 a0_1.length c_a0_1]) Try.isAgg35 Try.sizeOf35 rfl rfl (row_cells (S102.get (k := 0) rfl))) ?_
      obtain ⟨⟨x118, rs119⟩, h120, hd121⟩ := bnd_some hd117
      obtain ⟨_, G128, hc127, p122, c123, rfl, S129, B125, a126⟩ := W_laws_toSchedule fu G100 a0_0 p_a0_1 c_a0_1 a0_1 a_a0_1 (S102.view v_a0_1) x118 rs119 h120
      have S130 := S102.call S129
      refine AO.c rfl (o_call (vs := [.agg [.int .i64 a0_0, .slice p_a0_1 a0_1.length c_a0_1].toArray]) rfl Try.call24 hc127) ?_
      refine AO.p rfl (p_move rfl) ?_
      obtain ⟨rs131, h132, hd133⟩ := bnd_some hd121
      obtain ⟨_, G142, hc141, p134, c135, T138, rfl, S143, B137, t139, s140⟩ := W_laws_toInt64SS fu G128 p_a1 c_a1 T_a1 a1 t_a1 (S130.view v_a1) (S130.tview w_a1) rs131 h132
      have S144 := S130.call S143
      refine AO.c rfl (o_call (vs := [.slice p_a1 a1.length c_a1]) rfl Try.call36 hc141) ?_
      refine AO.p rfl (p_move rfl) ?_
      refine AO.p rfl (p_move rfl) ?_
      obtain ⟨⟨b145, x146⟩, h147, hd148⟩ := bnd_some hd133
      refine AO.c rfl (o_call (vs := [.agg [.int .i64 x118, .slice p122 rs119.length c123].toArray, .slice p134 rs131.length c135, .int .i64 a2, .int .i64 a3]) rfl Try.call44 (W_spec_AreOpposite fu G142 x118 p122 c123 rs119 a126 (S144.oview (k := 2) rfl B125 (flat_len1 a126 rfl)) p134 c135 T138 rs131 t139 (S144.oview (k := 0) rfl B137 (tc_len1 t139 rfl)) (S144.oviewT (k := 1) rfl s140) a2 a3 b145 x146 h147)) ?_
      refine AO.p rfl (p_move rfl) ?_
      refine AO.p rfl (p_extract rfl rfl) ?_
      refine AO.p rfl (p_extract rfl rfl) ?_
      refine AO.p rfl (p_assign rfl) ?_
      refine AO.p rfl (p_assign rfl) ?_
      refine AO.nil ?_
      refine AX.seq ?_
      refine AX.region ?_
      refine AO.c rfl (s_loadN (vs := [.int .i64 a0_0, .slice p_a0_1 a0_1.length c_a0_1]) Try.isAgg35 Try.sizeOf35 rfl rfl (row_cells (S144.get (k := 3) rfl))) ?_
      obtain ⟨⟨x150, rs151⟩, h152, hd153⟩ := bnd_some hd148
      obtain ⟨_, G160, hc159, p154, c155, rfl, S161, B157, a158⟩ := W_laws_toSchedule fu G142 a0_0 p_a0_1 c_a0_1 a0_1 a_a0_1 (S144.view v_a0_1) x150 rs151 h152
      have S162 := S144.call S161
      refine AO.c rfl (o_call (vs := [.agg [.int .i64 a0_0, .slice p_a0_1 a0_1.length c_a0_1].toArray]) rfl Try.call24 hc159) ?_
      obtain ⟨G163, i164, hii164, hHG163, S165⟩ := S162.new (AObj.row false ([.int .i64 0, .slice none 0 0]))
      refine AO.c rfl (s_alloc (i := i164) (cs := [.int .i64 0, .slice none 0 0]) Try.zeroValue39 rfl rfl hii164 hHG163) ?_
      obtain ⟨G167, hHG167, S168⟩ := S165.set (k := 0) (i := i164) rfl (AObj.row false ([.int .i64 x150, .slice p154 rs151.length c155]))
      refine AO.s (s_storeAll (vs := [.int .i64 x150, .slice p154 rs151.length c155]) Try.sizeOf39 rfl rfl (ones_list rfl) (S165.get (k := 0) rfl) rfl rfl hHG167) ?_
      refine AO.nil ?_
      refine AX.seq ?_
      refine AX.region ?_
      refine AO.p rfl (p_move rfl) ?_
      obtain ⟨rs169, h170, hd171⟩ := bnd_some hd153
      obtain ⟨_, G180, hc179, p172, c173, T176, rfl, S181, B175, t177, s178⟩ := W_laws_toInt64SS fu G167 p_a1 c_a1 T_a1 a1 t_a1 (S168.view v_a1) (S168.tview w_a1) rs169 h170
      have S182 := S168.call S181
      refine AO.c rfl (o_call (vs := [.slice p_a1 a1.length c_a1]) rfl Try.call36 hc179) ?_
      refine AO.p rfl (p_assign rfl) ?_
      refine AO.nil ?_
      refine AX.seq ?_
      refine AX.region ?_
      refine AO.c rfl (s_loadN (vs := [.int .i64 x150, .slice p154 rs151.length c155]) Try.isAgg39 Try.sizeOf39 rfl rfl (row_cells (S182.get (k := 2) rfl))) ?_
      refine AO.p rfl (p_move rfl) ?_
      refine AO.p rfl (p_move rfl) ?_
      refine AO.p rfl (p_move rfl) ?_
      obtain ⟨⟨b183, x184⟩, h185, hd186⟩ := bnd_some hd171
      refine AO.c rfl (o_call (vs := [.agg [.int .i64 x150, .slice p154 rs151.length c155].toArray, .slice p172 rs169.length c173, .int .i64 a2, .int .i64 a3]) rfl Try.call45 (W_impl_AreOpposite fu G180 x150 p154 c155 rs151 a158 (S182.oview (k := 3) rfl B157 (flat_len1 a158 rfl)) p172 c173 T176 rs169 t177 (S182.oview (k := 0) rfl B175 (tc_len1 t177 rfl)) (S182.oviewT (k := 1) rfl s178) a2 a3 b183 x184 h185)) ?_
      refine AO.p rfl (p_move rfl) ?_
      refine AO.p rfl (p_extract rfl rfl) ?_
      refine AO.p rfl (p_extract rfl rfl) ?_
      refine AO.p rfl (p_assign rfl) ?_
      refine AO.p rfl (p_assign rfl) ?_
      refine AO.nil ?_
      refine AX.seq ?_
      refine AX.cut (fun t' H' => G180 = H' ∧ Am.Sub [(1, .slice p_a1 a1.length c_a1), (4, .pointer (some ⟨i101, 0, none⟩)), (12, .pointer (some ⟨i164, 0, none⟩)), (13, .slice p172 rs169.length c173), (55, .bool ((!(b183 == b145)) || (!decide (x184 = x146))))] t') ?_ ?_
      · skip
        refine AX.region ?_
        refine AO.p rfl (p_move rfl) ?_
        refine AO.p rfl (p_move rfl) ?_
        refine AO.p rfl (p_bneq Try.underlying4 rfl rfl) ?_
        refine AO.p rfl (p_move rfl) ?_
        refine AO.cases (d := 51) rfl (fun c191 => ?_) (fun c191 => ?_)
        · skip
          refine AO.gn rfl rfl rfl ?_
          refine AO.gn rfl rfl rfl ?_
          refine AO.gn rfl rfl rfl ?_
          refine AO.p rfl (p_pickT rfl rfl) ?_
          refine AO.nil ?_
          exact ⟨rfl, Sub.cons' rfl rfl (Sub.cons' rfl rfl (Sub.cons' rfl rfl (Sub.cons' rfl rfl (Sub.cons' rfl (bool_eq (by simp only [c191, Bool.true_and, Bool.false_and, Bool.and_true, Bool.and_false, Bool.true_or, Bool.false_or, Bool.or_true, Bool.or_false, Bool.not_true, Bool.not_false, cond_true, cond_false])) (Sub.nil _)))))⟩
        · skip
          refine AO.gp rfl rfl rfl (p_move rfl) ?_
          refine AO.gp rfl rfl rfl (p_move rfl) ?_
          refine AO.gp rfl rfl rfl (p_neq rfl rfl) ?_
          refine AO.p rfl (p_pickF rfl rfl) ?_
          refine AO.nil ?_
          exact ⟨rfl, Sub.cons' rfl rfl (Sub.cons' rfl rfl (Sub.cons' rfl rfl (Sub.cons' rfl rfl (Sub.cons' rfl (bool_eq (by simp only [c191, Bool.true_and, Bool.false_and, Bool.and_true, Bool.and_false, Bool.true_or, Bool.false_or, Bool.or_true, Bool.or_false, Bool.not_true, Bool.not_false, cond_true, cond_false])) (Sub.nil _)))))⟩
      · rintro t' _ ⟨rfl, hsub192⟩
        refine AX.sub hsub192 ?_
        refine AX.cond rfl (fun c193 => ?_) (fun c193 => ?_)
        · have hd194 := bif_t c193 hd186
          refine AX.seq ?_
          refine AX.region ?_
          refine AO.p rfl (p_assign rfl) ?_
          refine AO.nil ?_
          refine AX.ret ?_
          obtain rfl := some_inj hd194
          exact ⟨.inr rfl, _, res1 rfl (rv_tmp rfl), rfl, (flatB_ok rfl), S182.hold⟩
        · have hd195 := bif_f c193 hd186
          refine AX.skip ?_
          refine AX.seq ?_
          refine AX.seq ?_
          refine DR.startS [false, false, true, true, false] mix (by kernel_rfl) (fun hst => ?_)
          refine DR.r rfl rfl (r_loadN (vs := [.int .i64 x150, .slice p154 rs151.length c155]) rfl Try.isAgg39 Try.sizeOf39 rfl) (many_row (row_cells (S182.get (k := 2) rfl)) (bel_cons (.of_flat0 rfl) (bel_cons (S182.oin (k := 3) rfl B157).bel bel_nil))) ?_
          refine DR.r rfl rfl (r_loadN (vs := [.int .i64 a0_0, .slice p_a0_1 a0_1.length c_a0_1]) rfl Try.isAgg35 Try.sizeOf35 rfl) (many_row (row_cells (S182.get (k := 7) rfl)) (bel_cons (.of_flat0 rfl) (bel_cons (S182.view v_a0_1).inn.bel bel_nil))) ?_
          obtain ⟨⟨x196, rs197⟩, h198, hd199⟩ := bnd_some hd195
          obtain ⟨_, G206, hc205, p200, c201, rfl, S207, B203, a204⟩ := W_laws_toSchedule fu G180 a0_0 p_a0_1 c_a0_1 a0_1 a_a0_1 (S182.view v_a0_1) x196 rs197 h198
          have S208 := S182.call S207
          refine DR.w rfl rfl (o_call (vs := [.agg [.int .i64 a0_0, .slice p_a0_1 a0_1.length c_a0_1].toArray]) rfl Try.call24 hc205) (S207.len) ?_
          obtain ⟨b209, h210, hd211⟩ := bnd_some hd199
          refine DR.w rfl rfl (o_call (vs := [.agg [.int .i64 x150, .slice p154 rs151.length c155].toArray, .agg [.int .i64 x196, .slice p200 rs197.length c201].toArray]) rfl Try.call26 (W_laws_eqSchedule fu G206 x150 p154 c155 rs151 a158 (S208.oview (k := 4) rfl B157 (flat_len1 a158 rfl)) x196 p200 c201 rs197 a204 (S208.oview (k := 0) rfl B203 (flat_len1 a204 rfl)) b209 h210)) (Nat.le_refl _) ?_
          refine DR.p rfl rfl (p_not rfl) ?_
          refine DR.nil 5 [(0, 2)] hst (by kernel_rfl) ⟨(rdN (fun h => S207.hold _ h)), trivial⟩ ?_
          refine AX.cond rfl (fun c213 => ?_) (fun c213 => ?_)
          · have hd214 := bif_t c213 hd211
            refine AX.seq ?_
            refine AX.region ?_
            refine AO.p rfl (p_assign rfl) ?_
            refine AO.nil ?_
            refine AX.ret ?_
            obtain rfl := some_inj hd214
            exact ⟨.inr rfl, _, res1 rfl (rv_tmp rfl), rfl, (flatB_ok rfl), S208.hold⟩
          · have hd215 := bif_f c213 hd211
            refine AX.skip ?_
            refine AX.seq ?_
            refine AX.seq ?_
            refine AX.region ?_
            refine AO.p rfl (p_move rfl) ?_
            refine AO.p rfl (p_move rfl) ?_
            obtain ⟨rs216, h217, hd218⟩ := bnd_some hd215
            obtain ⟨_, G227, hc226, p219, c220, T223, rfl, S228, B222, t224, s225⟩ := W_laws_toInt64SS fu G206 p_a1 c_a1 T_a1 a1 t_a1 (S208.view v_a1) (S208.tview w_a1) rs216 h217
            have S229 := S208.call S228
            refine AO.c rfl (o_call (vs := [.slice p_a1 a1.length c_a1]) rfl Try.call36 hc226) ?_
            obtain ⟨b230, h231, hd232⟩ := bnd_some hd218
            refine AO.c rfl (o_call (vs := [.slice p172 rs169.length c173, .slice p219 rs216.length c220]) rfl Try.call31 (W_laws_eqInt64SS fu G227 p172 c173 T176 rs169 t177 (S229.oview (k := 3) rfl B175 (tc_len1 t177 rfl)) (S229.oviewT (k := 4) rfl s178) p219 c220 T223 rs216 t224 (S229.oview (k := 0) rfl B222 (tc_len1 t224 rfl)) (S229.oviewT (k := 1) rfl s225) b230 h231)) ?_
            refine AO.p rfl (p_not rfl) ?_
            refine AO.nil ?_
            refine AX.cond rfl (fun c234 => ?_) (fun c234 => ?_)
            · have hd235 := bif_t c234 hd232
              refine AX.seq ?_
              refine AX.region ?_
              refine AO.p rfl (p_assign rfl) ?_
              refine AO.nil ?_
              refine AX.ret ?_
              obtain rfl := some_inj hd235
              exact ⟨.inr rfl, _, res1 rfl (rv_tmp rfl), rfl, (flatB_ok rfl), S229.hold⟩
            · have hd236 := bif_f c234 hd232
              refine AX.skip ?_
              refine AX.seq ?_
              refine AX.region ?_
              refine AO.p rfl (p_assign rfl) ?_
              refine AO.nil ?_
              refine AX.ret ?_
              obtain rfl := some_inj hd236
              exact ⟨.inr rfl, _, res1 rfl (rv_tmp rfl), rfl, (flatB_ok rfl), S229.hold⟩

end Go.Proofs.Ytpaaoafgahbokaa
