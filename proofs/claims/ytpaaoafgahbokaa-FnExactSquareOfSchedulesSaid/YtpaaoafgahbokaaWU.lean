/-
  The program computes that, printed by a program. No condition.
-/
import Derived.Test.YtpaaoafgahbokaaDU
import Derived.Test.YtpaaoafgahbokaaWI
import Derived.Test.YtpaaoafgahbokaaProg
import Derived.KernelRfl
namespace Go.Proofs.Ytpaaoafgahbokaa
open Go Go.RowKit Am
set_option linter.unusedVariables false
set_option linter.unusedSimpArgs false
set_option maxRecDepth 20000
set_option maxHeartbeats 4000000 in
theorem W_laws_FnExactSquareOfSchedules (fu : Nat) (H : AHeap) (a0_0 : Int) (p_a0_1 : Option Addr) (c_a0_1 : Nat) (a0_1 : List (List Int)) (a_a0_1 : All 14 a0_1) (v_a0_1 : Vw H p_a0_1 a0_1.length c_a0_1 (ints a0_1.flatten)) (a1_0 : Int) (p_a1_1 : Option Addr) (c_a1_1 : Nat) (a1_1 : List (List Int)) (a_a1_1 : All 14 a1_1) (v_a1_1 : Vw H p_a1_1 a1_1.length c_a1_1 (ints a1_1.flatten)) (r0 : Bool) (hd : D_laws_FnExactSquareOfSchedules fu a0_0 a0_1 a1_0 a1_1 = some r0) : ACall Try.prog 11 [.agg [.int .i64 a0_0, .slice p_a0_1 a0_1.length c_a0_1].toArray, .agg [.int .i64 a1_0, .slice p_a1_1 a1_1.length c_a1_1].toArray] H (.bool r0) H := by
  refine ACall.bodyP (N := 119) [(0, .agg [.int .i64 a0_0, .slice p_a0_1 a0_1.length c_a0_1].toArray), (1, .agg [.int .i64 a1_0, .slice p_a1_1 a1_1.length c_a1_1].toArray)] Try.func11 rfl rfl rfl rfl ?_
  unfold D_laws_FnExactSquareOfSchedules at hd
  have S0 : St [] H H [] := St.nil H
  refine AX.seq ?_
  refine AX.region ?_
  obtain ⟨G100, i101, hii101, hHG100, S102⟩ := S0.new (AObj.row false ([.int .i64 a0_0, .slice p_a0_1 a0_1.length c_a0_1]))
  refine AO.c rfl (s_box (i := i101) (cs := [.int .i64 a0_0, .slice p_a0_1 a0_1.length c_a0_1]) rfl hii101 rfl hHG100) ?_
  obtain ⟨G104, i105, hii105, hHG104, S106⟩ := S102.new (AObj.row false ([.int .i64 a1_0, .slice p_a1_1 a1_1.length c_a1_1]))
  refine AO.c rfl (s_box (i := i105) (cs := [.int .i64 a1_0, .slice p_a1_1 a1_1.length c_a1_1]) rfl hii105 rfl hHG104) ?_
  refine AO.p rfl (p_assign rfl) ?_
  refine AO.nil ?_
  refine AX.seq ?_
  refine AX.region ?_
  refine AO.p rfl (p_assign rfl) ?_
  refine AO.nil ?_
  refine AX.seq ?_
  refine AX.region ?_
  refine AO.c rfl (s_loadN (vs := [.int .i64 a0_0, .slice p_a0_1 a0_1.length c_a0_1]) Try.isAgg35 Try.sizeOf35 rfl rfl (row_cells (S106.get (k := 1) rfl))) ?_
  refine AO.p rfl (p_move rfl) ?_
  obtain ⟨x108, h109, hd110⟩ := bnd_some hd
  refine AO.c rfl (o_call (vs := [.agg [.int .i64 a0_0, .slice p_a0_1 a0_1.length c_a0_1].toArray, .int .i64 1048576]) rfl Try.call22 (W_laws_szSchedule fu G104 a0_0 p_a0_1 c_a0_1 a0_1 a_a0_1 (S106.view v_a0_1) 1048576 x108 h109)) ?_
  refine AO.p rfl (p_assign rfl) ?_
  refine AO.nil ?_
  refine AX.seq ?_
  refine AX.seq ?_
  refine AX.region ?_
  refine AO.p rfl (p_move rfl) ?_
  refine AO.p rfl (p_lss rfl rfl) ?_
  refine AO.nil ?_
  refine AX.cond rfl (fun c112 => ?_) (fun c112 => ?_)
  · have hd113 := bif_t c112 hd110
    refine AX.seq ?_
    refine AX.region ?_
    refine AO.p rfl (p_assign rfl) ?_
    refine AO.nil ?_
    refine AX.ret ?_
    obtain rfl := some_inj hd113
    exact ⟨.inr rfl, _, res1 rfl (rv_tmp rfl), rfl, (flatB_ok rfl), S106.hold⟩
  · have hd114 := bif_f c112 hd110
    refine AX.skip ?_
    refine AX.seq ?_
    refine AX.region ?_
    refine AO.c rfl (s_loadN (vs := [.int .i64 a1_0, .slice p_a1_1 a1_1.length c_a1_1]) Try.isAgg35 Try.sizeOf35 rfl rfl (row_cells (S106.get (k := 0) rfl))) ?_
    refine AO.p rfl (p_move rfl) ?_
    obtain ⟨x115, h116, hd117⟩ := bnd_some hd114
    refine AO.c rfl (o_call (vs := [.agg [.int .i64 a1_0, .slice p_a1_1 a1_1.length c_a1_1].toArray, .int .i64 x108]) rfl Try.call22 (W_laws_szSchedule fu G104 a1_0 p_a1_1 c_a1_1 a1_1 a_a1_1 (S106.view v_a1_1) x108 x115 h116)) ?_
    refine AO.p rfl (p_assign rfl) ?_
    refine AO.nil ?_
    refine AX.seq ?_
    refine AX.seq ?_
    refine AX.region ?_
    refine AO.p rfl (p_move rfl) ?_
    refine AO.p rfl (p_lss rfl rfl) ?_
    refine AO.nil ?_
    refine AX.cond rfl (fun c119 => ?_) (fun c119 => ?_)
    · have hd120 := bif_t c119 hd117
      refine AX.seq ?_
      refine AX.region ?_
      refine AO.p rfl (p_assign rfl) ?_
      refine AO.nil ?_
      refine AX.ret ?_
      obtain rfl := some_inj hd120
      exact ⟨.inr rfl, _, res1 rfl (rv_tmp rfl), rfl, (flatB_ok rfl), S106.hold⟩
    · have hd121 := bif_f c119 hd117
      refine AX.skip ?_
      refine AX.seq ?_
      refine DR.startS [false, true, false, true, true, false, false, false, false, true, false] mix (by kernel_rfl) (fun hst => ?_)
      refine DR.r rfl rfl (r_loadN (vs := [.int .i64 a0_0, .slice p_a0_1 a0_1.length c_a0_1]) rfl Try.isAgg35 Try.sizeOf35 rfl) (many_row (row_cells (S106.get (k := 1) rfl)) (bel_cons (.of_flat0 rfl) (bel_cons (S106.view v_a0_1).inn.bel bel_nil))) ?_
      obtain ⟨⟨x122, rs123⟩, h124, hd125⟩ := bnd_some hd121
      obtain ⟨_, G132, hc131, p126, c127, rfl, S133, B129, a130⟩ := W_laws_toSchedule fu G104 a0_0 p_a0_1 c_a0_1 a0_1 a_a0_1 (S106.view v_a0_1) x122 rs123 h124
      have S134 := S106.call S133
      refine DR.w rfl rfl (o_call (vs := [.agg [.int .i64 a0_0, .slice p_a0_1 a0_1.length c_a0_1].toArray]) rfl Try.call24 hc131) (S133.len) ?_
      refine DR.r rfl rfl (r_loadN (vs := [.int .i64 a1_0, .slice p_a1_1 a1_1.length c_a1_1]) rfl Try.isAgg35 Try.sizeOf35 rfl) (many_row (row_cells (S134.get (k := 1) rfl)) (bel_cons (.of_flat0 rfl) (bel_cons (S134.view v_a1_1).inn.bel bel_nil))) ?_
      obtain ⟨⟨x135, rs136⟩, h137, hd138⟩ := bnd_some hd125
      obtain ⟨_, G145, hc144, p139, c140, rfl, S146, B142, a143⟩ := W_laws_toSchedule fu G132 a1_0 p_a1_1 c_a1_1 a1_1 a_a1_1 (S134.view v_a1_1) x135 rs136 h137
      have S147 := S134.call S146
      refine DR.w rfl rfl (o_call (vs := [.agg [.int .i64 a1_0, .slice p_a1_1 a1_1.length c_a1_1].toArray]) rfl Try.call24 hc144) (S146.len) ?_
      obtain ⟨⟨x148, rs149, x150⟩, h151, hd152⟩ := bnd_some hd138
      obtain ⟨_, G161, hc160, p153, c154, T157, rfl, S162, B156, t158, s159⟩ := W_spec_SquareOfSchedules fu G145 x122 p126 c127 rs123 a130 (S147.oview (k := 1) rfl B129 (flat_len1 a130 rfl)) x135 p139 c140 rs136 a143 (S147.oview (k := 0) rfl B142 (flat_len1 a143 rfl)) x148 rs149 x150 h151
      have S163 := S147.call S162
      refine DR.w rfl rfl (o_call (vs := [.agg [.int .i64 x122, .slice p126 rs123.length c127].toArray, .agg [.int .i64 x135, .slice p139 rs136.length c140].toArray]) rfl Try.call46 hc160) (S162.len) ?_
      refine DR.p rfl rfl (p_move rfl) ?_
      refine DR.p rfl rfl (p_extract rfl rfl) ?_
      refine DR.p rfl rfl (p_extract rfl rfl) ?_
      obtain ⟨G164, i165, hii165, hHG164, S166⟩ := S163.new (AObj.row false ([.int .i64 0, .slice none 0 0]))
      refine DR.a rfl rfl hii165 hHG164 (a_alloc Try.zeroValue26 (flat_list rfl)) ?_
      obtain ⟨G168, hHG168, S169⟩ := S166.set (k := 0) (i := i165) rfl (AObj.row false ([.int .i64 x148, .slice p153 rs149.length c154]))
      refine DR.s rfl (s_storeAll (vs := [.int .i64 x148, .slice p153 rs149.length c154]) Try.sizeOf26 rfl rfl (ones_list rfl) (S166.get (k := 0) rfl) rfl rfl hHG168) (set_le hHG168) ?_
      refine DR.p rfl rfl (p_assign rfl) ?_
      refine DR.nil 11 [(2, 1), (8, 1), (8, 3), (8, 4)] hst (by kernel_rfl) ⟨(rdN (fun h => S133.hold _ h)), (fun h => absurd h (by decide)), (fun h => absurd h (by decide)), (fun h => absurd h (by decide)), trivial⟩ ?_
      refine AX.seq ?_
      refine AX.region ?_
      refine AO.c rfl (s_loadN (vs := [.int .i64 a0_0, .slice p_a0_1 a0_1.length c_a0_1]) Try.isAgg35 Try.sizeOf35 rfl rfl (row_cells (S169.get (k := 6) rfl))) ?_
      obtain ⟨⟨x170, rs171⟩, h172, hd173⟩ := bnd_some hd152
      obtain ⟨_, G180, hc179, p174, c175, rfl, S181, B177, a178⟩ := W_laws_toSchedule fu G168 a0_0 p_a0_1 c_a0_1 a0_1 a_a0_1 (S169.view v_a0_1) x170 rs171 h172
      have S182 := S169.call S181
      refine AO.c rfl (o_call (vs := [.agg [.int .i64 a0_0, .slice p_a0_1 a0_1.length c_a0_1].toArray]) rfl Try.call24 hc179) ?_
      obtain ⟨G183, i184, hii184, hHG183, S185⟩ := S182.new (AObj.row false ([.int .i64 0, .slice none 0 0]))
      refine AO.c rfl (s_alloc (i := i184) (cs := [.int .i64 0, .slice none 0 0]) Try.zeroValue39 rfl rfl hii184 hHG183) ?_
      obtain ⟨G187, hHG187, S188⟩ := S185.set (k := 0) (i := i184) rfl (AObj.row false ([.int .i64 x170, .slice p174 rs171.length c175]))
      refine AO.s (s_storeAll (vs := [.int .i64 x170, .slice p174 rs171.length c175]) Try.sizeOf39 rfl rfl (ones_list rfl) (S185.get (k := 0) rfl) rfl rfl hHG187) ?_
      refine AO.nil ?_
      refine AX.seq ?_
      refine AX.region ?_
      refine AO.c rfl (s_loadN (vs := [.int .i64 a1_0, .slice p_a1_1 a1_1.length c_a1_1]) Try.isAgg35 Try.sizeOf35 rfl rfl (row_cells (S188.get (k := 7) rfl))) ?_
      obtain ⟨⟨x189, rs190⟩, h191, hd192⟩ := bnd_some hd173
      obtain ⟨_, G199, hc198, p193, c194, rfl, S200, B196, a197⟩ := W_laws_toSchedule fu G187 a1_0 p_a1_1 c_a1_1 a1_1 a_a1_1 (S188.view v_a1_1) x189 rs190 h191
      have S201 := S188.call S200
      refine AO.c rfl (o_call (vs := [.agg [.int .i64 a1_0, .slice p_a1_1 a1_1.length c_a1_1].toArray]) rfl Try.call24 hc198) ?_
      obtain ⟨G202, i203, hii203, hHG202, S204⟩ := S201.new (AObj.row false ([.int .i64 0, .slice none 0 0]))
      refine AO.c rfl (s_alloc (i := i203) (cs := [.int .i64 0, .slice none 0 0]) Try.zeroValue39 rfl rfl hii203 hHG202) ?_
      obtain ⟨G206, hHG206, S207⟩ := S204.set (k := 0) (i := i203) rfl (AObj.row false ([.int .i64 x189, .slice p193 rs190.length c194]))
      refine AO.s (s_storeAll (vs := [.int .i64 x189, .slice p193 rs190.length c194]) Try.sizeOf39 rfl rfl (ones_list rfl) (S204.get (k := 0) rfl) rfl rfl hHG206) ?_
      refine AO.nil ?_
      refine AX.seq ?_
      refine AX.region ?_
      refine AO.c rfl (s_loadN (vs := [.int .i64 x170, .slice p174 rs171.length c175]) Try.isAgg39 Try.sizeOf39 rfl rfl (row_cells (S207.get (k := 2) rfl))) ?_
      refine AO.c rfl (s_loadN (vs := [.int .i64 x189, .slice p193 rs190.length c194]) Try.isAgg39 Try.sizeOf39 rfl rfl (row_cells (S207.get (k := 0) rfl))) ?_
      obtain ⟨⟨x208, rs209, x210⟩, h211, hd212⟩ := bnd_some hd192
      obtain ⟨_, G221, hc220, p213, c214, T217, rfl, S222, B216, t218, s219⟩ := W_impl_SquareOfSchedules fu G206 x170 p174 c175 rs171 a178 (S207.oview (k := 3) rfl B177 (flat_len1 a178 rfl)) x189 p193 c194 rs190 a197 (S207.oview (k := 1) rfl B196 (flat_len1 a197 rfl)) x208 rs209 x210 h211
      have S223 := S207.call S222
      refine AO.c rfl (o_call (vs := [.agg [.int .i64 x170, .slice p174 rs171.length c175].toArray, .agg [.int .i64 x189, .slice p193 rs190.length c194].toArray]) rfl Try.call47 hc220) ?_
      refine AO.p rfl (p_move rfl) ?_
      refine AO.p rfl (p_extract rfl rfl) ?_
      refine AO.p rfl (p_extract rfl rfl) ?_
      obtain ⟨G224, i225, hii225, hHG224, S226⟩ := S223.new (AObj.row false ([.int .i64 0, .slice none 0 0]))
      refine AO.c rfl (s_alloc (i := i225) (cs := [.int .i64 0, .slice none 0 0]) Try.zeroValue26 rfl rfl hii225 hHG224) ?_
      obtain ⟨G228, hHG228, S229⟩ := S226.set (k := 0) (i := i225) rfl (AObj.row false ([.int .i64 x208, .slice p213 rs209.length c214]))
      refine AO.s (s_storeAll (vs := [.int .i64 x208, .slice p213 rs209.length c214]) Try.sizeOf26 rfl rfl (ones_list rfl) (S226.get (k := 0) rfl) rfl rfl hHG228) ?_
      refine AO.p rfl (p_assign rfl) ?_
      refine AO.nil ?_
      refine AX.seq ?_
      obtain ⟨r248, hb249, hd250⟩ := bnd_some hd212
      refine AX.cut (fun t' H' => ∃ (b247 : Bool), b247 = r248 ∧ St [] H H' [[(i101, AObj.row false ([.int .i64 a0_0, .slice p_a0_1 a0_1.length c_a0_1]))], [(i105, AObj.row false ([.int .i64 a1_0, .slice p_a1_1 a1_1.length c_a1_1]))], [(i165, AObj.row false ([.int .i64 x148, .slice p153 rs149.length c154]))], oseg p153 (tcells T157), tseg T157, [(i184, AObj.row false ([.int .i64 x170, .slice p174 rs171.length c175]))], oseg p174 (ints rs171.flatten), [(i203, AObj.row false ([.int .i64 x189, .slice p193 rs190.length c194]))], oseg p193 (ints rs190.flatten), [(i225, AObj.row false ([.int .i64 x208, .slice p213 rs209.length c214]))], oseg p213 (tcells T217), tseg T217] ∧ Am.Sub [(2, .pointer (some ⟨i101, 0, none⟩)), (3, .pointer (some ⟨i105, 0, none⟩)), (6, .pointer (some ⟨i165, 0, none⟩)), (7, .int .i64 x150), (8, .pointer (some ⟨i184, 0, none⟩)), (9, .pointer (some ⟨i203, 0, none⟩)), (10, .pointer (some ⟨i225, 0, none⟩)), (11, .int .i64 x210), (53, .bool b247)] t') ?_ ?_
      · skip
        refine AX.region ?_
        refine AO.c rfl (s_loadN (vs := [.int .i64 x208, .slice p213 rs209.length c214]) Try.isAgg26 Try.sizeOf26 rfl rfl (row_cells (S229.get (k := 0) rfl))) ?_
        refine AO.c rfl (s_loadN (vs := [.int .i64 x148, .slice p153 rs149.length c154]) Try.isAgg26 Try.sizeOf26 rfl rfl (row_cells (S229.get (k := 7) rfl))) ?_
        obtain ⟨b251, h252, hd253⟩ := bnd_some hb249
        refine AO.c rfl (o_call (vs := [.agg [.int .i64 x208, .slice p213 rs209.length c214].toArray, .agg [.int .i64 x148, .slice p153 rs149.length c154].toArray]) rfl Try.call19 (W_laws_eqSquare fu G228 x208 p213 c214 T217 rs209 t218 (S229.oview (k := 1) rfl B216 (tc_len1 t218 rfl)) (S229.oviewT (k := 2) rfl s219) x148 p153 c154 T157 rs149 t158 (S229.oview (k := 8) rfl B156 (tc_len1 t158 rfl)) (S229.oviewT (k := 9) rfl s159) b251 h252)) ?_
        refine AO.p rfl (p_not rfl) ?_
        refine AO.p rfl (p_move rfl) ?_
        refine AO.cases (d := 49) rfl (fun c255 => ?_) (fun c255 => ?_)
        · have hd256 := bif_t c255 hd253
          refine AO.gn rfl rfl rfl ?_
          refine AO.gn rfl rfl rfl ?_
          refine AO.gn rfl rfl rfl ?_
          refine AO.p rfl (p_pickT rfl rfl) ?_
          refine AO.nil ?_
          have S257 := S229.front 2 rfl
          have S258 := S257.front 2 rfl
          have S259 := S258.front 2 rfl
          have S260 := S259.front 4 rfl
          have S261 := S260.front 4 rfl
          have S262 := S261.front 6 rfl
          have S263 := S262.front 6 rfl
          have S264 := S263.front 9 rfl
          have S265 := S264.front 9 rfl
          have S266 := S265.front 9 rfl
          have S267 := S266.front 12 rfl
          have S268 := S267.front 13 rfl
          have S269 := S268.keep 12
          exact ⟨true, (some_inj hd256), S269, Sub.cons' rfl rfl (Sub.cons' rfl rfl (Sub.cons' rfl rfl (Sub.cons' rfl rfl (Sub.cons' rfl rfl (Sub.cons' rfl rfl (Sub.cons' rfl rfl (Sub.cons' rfl rfl (Sub.cons' rfl rfl (Sub.nil _)))))))))⟩
        · have hd270 := bif_f c255 hd253
          refine AO.gp rfl rfl rfl (p_move rfl) ?_
          refine AO.gp rfl rfl rfl (p_move rfl) ?_
          refine AO.gp rfl rfl rfl (p_neq rfl rfl) ?_
          refine AO.p rfl (p_pickF rfl rfl) ?_
          refine AO.nil ?_
          have S271 := S229.front 2 rfl
          have S272 := S271.front 2 rfl
          have S273 := S272.front 2 rfl
          have S274 := S273.front 4 rfl
          have S275 := S274.front 4 rfl
          have S276 := S275.front 6 rfl
          have S277 := S276.front 6 rfl
          have S278 := S277.front 9 rfl
          have S279 := S278.front 9 rfl
          have S280 := S279.front 9 rfl
          have S281 := S280.front 12 rfl
          have S282 := S281.front 13 rfl
          have S283 := S282.keep 12
          exact ⟨(!decide (x210 = x150)), (some_inj hd270), S283, Sub.cons' rfl rfl (Sub.cons' rfl rfl (Sub.cons' rfl rfl (Sub.cons' rfl rfl (Sub.cons' rfl rfl (Sub.cons' rfl rfl (Sub.cons' rfl rfl (Sub.cons' rfl rfl (Sub.cons' rfl rfl (Sub.nil _)))))))))⟩
      · rintro t' G285 ⟨b247, rfl, S284, hsub286⟩
        refine AX.sub hsub286 ?_
        refine AX.cond rfl (fun c287 => ?_) (fun c287 => ?_)
        · have hd288 := bif_t c287 hd250
          refine AX.seq ?_
          refine AX.region ?_
          refine AO.p rfl (p_assign rfl) ?_
          refine AO.nil ?_
          refine AX.ret ?_
          obtain rfl := some_inj hd288
          exact ⟨.inr rfl, _, res1 rfl (rv_tmp rfl), rfl, (flatB_ok rfl), S284.hold⟩
        · have hd289 := bif_f c287 hd250
          refine AX.skip ?_
          refine AX.seq ?_
          refine AX.seq ?_
          refine DR.startS [false, false, true, true, false] mix (by kernel_rfl) (fun hst => ?_)
          refine DR.r rfl rfl (r_loadN (vs := [.int .i64 x170, .slice p174 rs171.length c175]) rfl Try.isAgg39 Try.sizeOf39 rfl) (many_row (row_cells (S284.get (k := 5) rfl)) (bel_cons (.of_flat0 rfl) (bel_cons (S284.oin (k := 6) rfl B177).bel bel_nil))) ?_
          refine DR.r rfl rfl (r_loadN (vs := [.int .i64 a0_0, .slice p_a0_1 a0_1.length c_a0_1]) rfl Try.isAgg35 Try.sizeOf35 rfl) (many_row (row_cells (S284.get (k := 0) rfl)) (bel_cons (.of_flat0 rfl) (bel_cons (S284.view v_a0_1).inn.bel bel_nil))) ?_
          obtain ⟨⟨x290, rs291⟩, h292, hd293⟩ := bnd_some hd289
          obtain ⟨_, G300, hc299, p294, c295, rfl, S301, B297, a298⟩ := W_laws_toSchedule fu G285 a0_0 p_a0_1 c_a0_1 a0_1 a_a0_1 (S284.view v_a0_1) x290 rs291 h292
          have S302 := S284.call S301
          refine DR.w rfl rfl (o_call (vs := [.agg [.int .i64 a0_0, .slice p_a0_1 a0_1.length c_a0_1].toArray]) rfl Try.call24 hc299) (S301.len) ?_
          obtain ⟨b303, h304, hd305⟩ := bnd_some hd293
          refine DR.w rfl rfl (o_call (vs := [.agg [.int .i64 x170, .slice p174 rs171.length c175].toArray, .agg [.int .i64 x290, .slice p294 rs291.length c295].toArray]) rfl Try.call26 (W_laws_eqSchedule fu G300 x170 p174 c175 rs171 a178 (S302.oview (k := 7) rfl B177 (flat_len1 a178 rfl)) x290 p294 c295 rs291 a298 (S302.oview (k := 0) rfl B297 (flat_len1 a298 rfl)) b303 h304)) (Nat.le_refl _) ?_
          refine DR.p rfl rfl (p_not rfl) ?_
          refine DR.nil 5 [(0, 2)] hst (by kernel_rfl) ⟨(rdN (fun h => S301.hold _ h)), trivial⟩ ?_
          refine AX.cond rfl (fun c307 => ?_) (fun c307 => ?_)
          · have hd308 := bif_t c307 hd305
            refine AX.seq ?_
            refine AX.region ?_
            refine AO.p rfl (p_assign rfl) ?_
            refine AO.nil ?_
            refine AX.ret ?_
            obtain rfl := some_inj hd308
            exact ⟨.inr rfl, _, res1 rfl (rv_tmp rfl), rfl, (flatB_ok rfl), S302.hold⟩
          · have hd309 := bif_f c307 hd305
            refine AX.skip ?_
            refine AX.seq ?_
            refine AX.seq ?_
            refine DR.startS [false, false, true, true, false] mix (by kernel_rfl) (fun hst => ?_)
            refine DR.r rfl rfl (r_loadN (vs := [.int .i64 x189, .slice p193 rs190.length c194]) rfl Try.isAgg39 Try.sizeOf39 rfl) (many_row (row_cells (S302.get (k := 8) rfl)) (bel_cons (.of_flat0 rfl) (bel_cons (S302.oin (k := 9) rfl B196).bel bel_nil))) ?_
            refine DR.r rfl rfl (r_loadN (vs := [.int .i64 a1_0, .slice p_a1_1 a1_1.length c_a1_1]) rfl Try.isAgg35 Try.sizeOf35 rfl) (many_row (row_cells (S302.get (k := 2) rfl)) (bel_cons (.of_flat0 rfl) (bel_cons (S302.view v_a1_1).inn.bel bel_nil))) ?_
            obtain ⟨⟨x310, rs311⟩, h312, hd313⟩ := bnd_some hd309
            obtain ⟨_, G320, hc319, p314, c315, rfl, S321, B317, a318⟩ := W_laws_toSchedule fu G300 a1_0 p_a1_1 c_a1_1 a1_1 a_a1_1 (S302.view v_a1_1) x310 rs311 h312
            have S322 := S302.call S321
            refine DR.w rfl rfl (o_call (vs := [.agg [.int .i64 a1_0, .slice p_a1_1 a1_1.length c_a1_1].toArray]) rfl Try.call24 hc319) (S321.len) ?_
            obtain ⟨b323, h324, hd325⟩ := bnd_some hd313
            refine DR.w rfl rfl (o_call (vs := [.agg [.int .i64 x189, .slice p193 rs190.length c194].toArray, .agg [.int .i64 x310, .slice p314 rs311.length c315].toArray]) rfl Try.call26 (W_laws_eqSchedule fu G320 x189 p193 c194 rs190 a197 (S322.oview (k := 10) rfl B196 (flat_len1 a197 rfl)) x310 p314 c315 rs311 a318 (S322.oview (k := 0) rfl B317 (flat_len1 a318 rfl)) b323 h324)) (Nat.le_refl _) ?_
            refine DR.p rfl rfl (p_not rfl) ?_
            refine DR.nil 5 [(0, 2)] hst (by kernel_rfl) ⟨(rdN (fun h => S321.hold _ h)), trivial⟩ ?_
            refine AX.cond rfl (fun c327 => ?_) (fun c327 => ?_)
            · have hd328 := bif_t c327 hd325
              refine AX.seq ?_
              refine AX.region ?_
              refine AO.p rfl (p_assign rfl) ?_
              refine AO.nil ?_
              refine AX.ret ?_
              obtain rfl := some_inj hd328
              exact ⟨.inr rfl, _, res1 rfl (rv_tmp rfl), rfl, (flatB_ok rfl), S322.hold⟩
            · have hd329 := bif_f c327 hd325
              refine AX.skip ?_
              refine AX.seq ?_
              refine AX.region ?_
              refine AO.p rfl (p_assign rfl) ?_
              refine AO.nil ?_
              refine AX.seq ?_
              refine AX.region ?_
              refine AO.c rfl (s_loadN (vs := [.int .i64 x170, .slice p174 rs171.length c175]) Try.isAgg39 Try.sizeOf39 rfl rfl (row_cells (S322.get (k := 7) rfl))) ?_
              refine AO.p rfl (p_move rfl) ?_
              have S330 := S322.front 8 rfl
              obtain ⟨⟨x331, rs332⟩, h333, hd334⟩ := bnd_some hd329
              obtain ⟨_, G338, hc337, rfl, S339, l335, a336⟩ := W_laws_markSchedule fu G320 x170 p174 c175 rs171 a178 B177 1 (S330.onodup (k := 0) rfl) (S330.omem (k := 0) rfl) x331 rs332 h333
              have S340 := St.callM (A := [oseg p174 (ints rs171.flatten)]) S330 S339 (by simp)
              refine AO.c rfl (o_call (vs := [.agg [.int .i64 x170, .slice p174 rs171.length c175].toArray, .int .i64 1]) rfl Try.call27 hc337) ?_
              refine AO.p rfl (p_assign rfl) ?_
              refine AO.nil ?_
              refine AX.seq ?_
              refine AX.region ?_
              refine AO.c rfl (s_loadN (vs := [.int .i64 x189, .slice p193 rs190.length c194]) Try.isAgg39 Try.sizeOf39 rfl rfl (row_cells (S340.get (k := 9) rfl))) ?_
              refine AO.p rfl (p_move rfl) ?_
              have S341 := S340.front 10 rfl
              obtain ⟨⟨x342, rs343⟩, h344, hd345⟩ := bnd_some hd334
              obtain ⟨_, G349, hc348, rfl, S350, l346, a347⟩ := W_laws_markSchedule fu G338 x189 p193 c194 rs190 a197 B196 x331 (S341.onodup (k := 0) rfl) (S341.omem (k := 0) rfl) x342 rs343 h344
              have S351 := St.callM (A := [oseg p193 (ints rs190.flatten)]) S341 S350 (by simp)
              refine AO.c rfl (o_call (vs := [.agg [.int .i64 x189, .slice p193 rs190.length c194].toArray, .int .i64 x331]) rfl Try.call27 hc348) ?_
              refine AO.p rfl (p_assign rfl) ?_
              refine AO.nil ?_
              refine AX.seq ?_
              obtain ⟨r369, hb370, hd371⟩ := bnd_some hd345
              refine AX.cut (fun t' H' => ∃ (b368 : Bool), b368 = r369 ∧ St [] H H' [[(i101, AObj.row false ([.int .i64 a0_0, .slice p_a0_1 a0_1.length c_a0_1]))], [(i105, AObj.row false ([.int .i64 a1_0, .slice p_a1_1 a1_1.length c_a1_1]))], [(i165, AObj.row false ([.int .i64 x148, .slice p153 rs149.length c154]))], oseg p153 (tcells T157), tseg T157, [(i225, AObj.row false ([.int .i64 x208, .slice p213 rs209.length c214]))], oseg p213 (tcells T217), tseg T217] ∧ Am.Sub [(2, .pointer (some ⟨i101, 0, none⟩)), (3, .pointer (some ⟨i105, 0, none⟩)), (6, .pointer (some ⟨i165, 0, none⟩)), (7, .int .i64 x150), (10, .pointer (some ⟨i225, 0, none⟩)), (82, .bool b368)] t') ?_ ?_
              · skip
                refine AX.region ?_
                refine AO.p rfl (p_move rfl) ?_
                refine AO.p rfl (p_lss rfl rfl) ?_
                refine AO.p rfl (p_move rfl) ?_
                refine AO.cases (d := 72) rfl (fun c372 => ?_) (fun c372 => ?_)
                · have hd373 := bif_t c372 hb370
                  refine AO.gn rfl rfl rfl ?_
                  refine AO.gn rfl rfl rfl ?_
                  refine AO.gn rfl rfl rfl ?_
                  refine AO.gn rfl rfl rfl ?_
                  refine AO.p rfl (p_pickT rfl rfl) ?_
                  refine AO.p rfl (p_move rfl) ?_
                  refine AO.gn rfl rfl rfl ?_
                  refine AO.gn rfl rfl rfl ?_
                  refine AO.gn rfl rfl rfl ?_
                  refine AO.p rfl (p_pickT rfl rfl) ?_
                  refine AO.nil ?_
                  have S374 := S351.front 13 rfl
                  have S375 := S374.front 13 rfl
                  have S376 := S375.front 13 rfl
                  have S377 := S376.front 11 rfl
                  have S378 := S377.front 11 rfl
                  have S379 := S378.front 11 rfl
                  have S380 := S379.front 11 rfl
                  have S381 := S380.front 11 rfl
                  have S382 := S381.keep 8
                  exact ⟨true, (some_inj hd373), S382, Sub.cons' rfl rfl (Sub.cons' rfl rfl (Sub.cons' rfl rfl (Sub.cons' rfl rfl (Sub.cons' rfl rfl (Sub.cons' rfl rfl (Sub.nil _))))))⟩
                · have hd383 := bif_f c372 hb370
                  refine AO.gc rfl rfl rfl (s_loadN (vs := [.int .i64 x208, .slice p213 rs209.length c214]) Try.isAgg26 Try.sizeOf26 rfl rfl (row_cells (S351.get (k := 11) rfl))) ?_
                  refine AO.gc rfl rfl rfl (s_loadN (vs := [.int .i64 x148, .slice p153 rs149.length c154]) Try.isAgg26 Try.sizeOf26 rfl rfl (row_cells (S351.get (k := 6) rfl))) ?_
                  obtain ⟨b384, h385, hd386⟩ := bnd_some hd383
                  refine AO.gc rfl rfl rfl (o_call (vs := [.agg [.int .i64 x208, .slice p213 rs209.length c214].toArray, .agg [.int .i64 x148, .slice p153 rs149.length c154].toArray]) rfl Try.call19 (W_laws_eqSquare fu G349 x208 p213 c214 T217 rs209 t218 (S351.oview (k := 12) rfl B216 (tc_len1 t218 rfl)) (S351.oviewT (k := 13) rfl s219) x148 p153 c154 T157 rs149 t158 (S351.oview (k := 7) rfl B156 (tc_len1 t158 rfl)) (S351.oviewT (k := 8) rfl s159) b384 h385)) ?_
                  refine AO.gp rfl rfl rfl (p_not rfl) ?_
                  refine AO.p rfl (p_pickF rfl rfl) ?_
                  refine AO.p rfl (p_move rfl) ?_
                  refine AO.cases (d := 78) rfl (fun c388 => ?_) (fun c388 => ?_)
                  · have hd389 := bif_t c388 hd386
                    refine AO.gn rfl rfl rfl ?_
                    refine AO.gn rfl rfl rfl ?_
                    refine AO.gn rfl rfl rfl ?_
                    refine AO.p rfl (p_pickT rfl rfl) ?_
                    refine AO.nil ?_
                    have S390 := S351.front 13 rfl
                    have S391 := S390.front 13 rfl
                    have S392 := S391.front 13 rfl
                    have S393 := S392.front 11 rfl
                    have S394 := S393.front 11 rfl
                    have S395 := S394.front 11 rfl
                    have S396 := S395.front 11 rfl
                    have S397 := S396.front 11 rfl
                    have S398 := S397.keep 8
                    exact ⟨true, (some_inj hd389), S398, Sub.cons' rfl rfl (Sub.cons' rfl rfl (Sub.cons' rfl rfl (Sub.cons' rfl rfl (Sub.cons' rfl rfl (Sub.cons' rfl rfl (Sub.nil _))))))⟩
                  · have hd399 := bif_f c388 hd386
                    refine AO.gp rfl rfl rfl (p_move rfl) ?_
                    refine AO.gp rfl rfl rfl (p_move rfl) ?_
                    refine AO.gp rfl rfl rfl (p_neq rfl rfl) ?_
                    refine AO.p rfl (p_pickF rfl rfl) ?_
                    refine AO.nil ?_
                    have S400 := S351.front 13 rfl
                    have S401 := S400.front 13 rfl
                    have S402 := S401.front 13 rfl
                    have S403 := S402.front 11 rfl
                    have S404 := S403.front 11 rfl
                    have S405 := S404.front 11 rfl
                    have S406 := S405.front 11 rfl
                    have S407 := S406.front 11 rfl
                    have S408 := S407.keep 8
                    exact ⟨(!decide (x210 = x150)), (some_inj hd399), S408, Sub.cons' rfl rfl (Sub.cons' rfl rfl (Sub.cons' rfl rfl (Sub.cons' rfl rfl (Sub.cons' rfl rfl (Sub.cons' rfl rfl (Sub.nil _))))))⟩
              · rintro t' G410 ⟨b368, rfl, S409, hsub411⟩
                refine AX.sub hsub411 ?_
                refine AX.cond rfl (fun c412 => ?_) (fun c412 => ?_)
                · have hd413 := bif_t c412 hd371
                  refine AX.seq ?_
                  refine AX.region ?_
                  refine AO.p rfl (p_assign rfl) ?_
                  refine AO.nil ?_
                  refine AX.ret ?_
                  obtain rfl := some_inj hd413
                  exact ⟨.inr rfl, _, res1 rfl (rv_tmp rfl), rfl, (flatB_ok rfl), S409.hold⟩
                · have hd414 := bif_f c412 hd371
                  refine AX.skip ?_
                  refine AX.seq ?_
                  refine AX.region ?_
                  refine AO.p rfl (p_assign rfl) ?_
                  refine AO.nil ?_
                  refine AX.seq ?_
                  refine AX.region ?_
                  refine AO.c rfl (s_loadN (vs := [.int .i64 x208, .slice p213 rs209.length c214]) Try.isAgg26 Try.sizeOf26 rfl rfl (row_cells (S409.get (k := 5) rfl))) ?_
                  refine AO.p rfl (p_move rfl) ?_
                  have S415 := S409.front 7 rfl
                  have S416 := S415.front 7 rfl
                  obtain ⟨⟨x417, rs418⟩, h419, hd420⟩ := bnd_some hd414
                  obtain ⟨_, G426, hc425, T421, rfl, S427, t422, s423, l424⟩ := W_laws_markSquare fu G410 x208 p213 c214 T217 rs209 t218 B216 s219 1 ((S416).join2.onodup (k := 0) rfl) ((S416).join2.omem (k := 0) rfl) x417 rs418 h419
                  have S428 := St.callM (A := [oseg p213 (tcells T217), tseg T217]) S416 S427 (by simp)
                  refine AO.c rfl (o_call (vs := [.agg [.int .i64 x208, .slice p213 rs209.length c214].toArray, .int .i64 1]) rfl Try.call20 hc425) ?_
                  refine AO.p rfl (p_assign rfl) ?_
                  refine AO.nil ?_
                  refine AX.seq ?_
                  refine AX.region ?_
                  refine AO.p rfl (p_assign rfl) ?_
                  refine AO.nil ?_
                  refine AX.seq ?_
                  refine AX.region ?_
                  refine AO.c rfl (s_loadN (vs := [.int .i64 x208, .slice p213 rs209.length c214]) Try.isAgg26 Try.sizeOf26 rfl rfl (row_cells (S428.get (k := 7) rfl))) ?_
                  refine AO.p rfl (p_move rfl) ?_
                  obtain ⟨x429, h430, hd431⟩ := bnd_some hd420
                  refine AO.c rfl (o_call (vs := [.agg [.int .i64 x208, .slice p213 rs209.length c214].toArray, .int .i64 1]) rfl Try.call21 (by have h' := W_laws_heldSquare fu G426 x208 p213 c214 T421 rs418 t422 (by rw [show List.length rs418 = rs209.length from (Eq.trans l424 rfl)]; exact (S428.oview (k := 0) rfl B216 (tc_len1 t422 (Eq.trans l424 rfl)))) (S428.oviewT (k := 1) rfl s423) 1 x429 h430; rw [show List.length rs418 = rs209.length from (Eq.trans l424 rfl)] at h'; exact h')) ?_
                  refine AO.p rfl (p_assign rfl) ?_
                  refine AO.nil ?_
                  refine AX.seq ?_
                  refine AX.seq ?_
                  refine AX.region ?_
                  refine AO.p rfl (p_move rfl) ?_
                  refine AO.p rfl (p_lss rfl rfl) ?_
                  refine AO.nil ?_
                  refine AX.cond rfl (fun c433 => ?_) (fun c433 => ?_)
                  · have hd434 := bif_t c433 hd431
                    refine AX.seq ?_
                    refine AX.region ?_
                    refine AO.p rfl (p_assign rfl) ?_
                    refine AO.nil ?_
                    refine AX.ret ?_
                    obtain rfl := some_inj hd434
                    exact ⟨.inr rfl, _, res1 rfl (rv_tmp rfl), rfl, (flatB_ok rfl), S428.hold⟩
                  · have hd435 := bif_f c433 hd431
                    refine AX.skip ?_
                    refine AX.seq ?_
                    refine AX.seq ?_
                    refine AX.region ?_
                    refine AO.p rfl (p_move rfl) ?_
                    refine AO.p rfl (p_move rfl) ?_
                    refine AO.p rfl (p_neq rfl rfl) ?_
                    refine AO.nil ?_
                    refine AX.cond rfl (fun c436 => ?_) (fun c436 => ?_)
                    · have hd437 := bif_t c436 hd435
                      refine AX.seq ?_
                      refine AX.region ?_
                      refine AO.p rfl (p_assign rfl) ?_
                      refine AO.nil ?_
                      refine AX.ret ?_
                      obtain rfl := some_inj hd437
                      exact ⟨.inr rfl, _, res1 rfl (rv_tmp rfl), rfl, (flatB_ok rfl), S428.hold⟩
                    · have hd438 := bif_f c436 hd435
                      refine AX.skip ?_
                      refine AX.seq ?_
                      refine DR.startS [false, true, false, true, true, false, false, false, false, true, false] mix (by kernel_rfl) (fun hst => ?_)
                      refine DR.r rfl rfl (r_loadN (vs := [.int .i64 a0_0, .slice p_a0_1 a0_1.length c_a0_1]) rfl Try.isAgg35 Try.sizeOf35 rfl) (many_row (row_cells (S428.get (k := 2) rfl)) (bel_cons (.of_flat0 rfl) (bel_cons (S428.view v_a0_1).inn.bel bel_nil))) ?_
                      obtain ⟨⟨x439, rs440⟩, h441, hd442⟩ := bnd_some hd438
                      obtain ⟨_, G449, hc448, p443, c444, rfl, S450, B446, a447⟩ := W_laws_toSchedule fu G426 a0_0 p_a0_1 c_a0_1 a0_1 a_a0_1 (S428.view v_a0_1) x439 rs440 h441
                      have S451 := S428.call S450
                      refine DR.w rfl rfl (o_call (vs := [.agg [.int .i64 a0_0, .slice p_a0_1 a0_1.length c_a0_1].toArray]) rfl Try.call24 hc448) (S450.len) ?_
                      refine DR.r rfl rfl (r_loadN (vs := [.int .i64 a1_0, .slice p_a1_1 a1_1.length c_a1_1]) rfl Try.isAgg35 Try.sizeOf35 rfl) (many_row (row_cells (S451.get (k := 4) rfl)) (bel_cons (.of_flat0 rfl) (bel_cons (S451.view v_a1_1).inn.bel bel_nil))) ?_
                      obtain ⟨⟨x452, rs453⟩, h454, hd455⟩ := bnd_some hd442
                      obtain ⟨_, G462, hc461, p456, c457, rfl, S463, B459, a460⟩ := W_laws_toSchedule fu G449 a1_0 p_a1_1 c_a1_1 a1_1 a_a1_1 (S451.view v_a1_1) x452 rs453 h454
                      have S464 := S451.call S463
                      refine DR.w rfl rfl (o_call (vs := [.agg [.int .i64 a1_0, .slice p_a1_1 a1_1.length c_a1_1].toArray]) rfl Try.call24 hc461) (S463.len) ?_
                      obtain ⟨⟨x465, rs466, x467⟩, h468, hd469⟩ := bnd_some hd455
                      obtain ⟨_, G478, hc477, p470, c471, T474, rfl, S479, B473, t475, s476⟩ := W_impl_SquareOfSchedules fu G462 x439 p443 c444 rs440 a447 (S464.oview (k := 1) rfl B446 (flat_len1 a447 rfl)) x452 p456 c457 rs453 a460 (S464.oview (k := 0) rfl B459 (flat_len1 a460 rfl)) x465 rs466 x467 h468
                      have S480 := S464.call S479
                      refine DR.w rfl rfl (o_call (vs := [.agg [.int .i64 x439, .slice p443 rs440.length c444].toArray, .agg [.int .i64 x452, .slice p456 rs453.length c457].toArray]) rfl Try.call47 hc477) (S479.len) ?_
                      refine DR.p rfl rfl (p_move rfl) ?_
                      refine DR.p rfl rfl (p_extract rfl rfl) ?_
                      refine DR.p rfl rfl (p_extract rfl rfl) ?_
                      obtain ⟨G481, i482, hii482, hHG481, S483⟩ := S480.new (AObj.row false ([.int .i64 0, .slice none 0 0]))
                      refine DR.a rfl rfl hii482 hHG481 (a_alloc Try.zeroValue26 (flat_list rfl)) ?_
                      obtain ⟨G485, hHG485, S486⟩ := S483.set (k := 0) (i := i482) rfl (AObj.row false ([.int .i64 x465, .slice p470 rs466.length c471]))
                      refine DR.s rfl (s_storeAll (vs := [.int .i64 x465, .slice p470 rs466.length c471]) Try.sizeOf26 rfl rfl (ones_list rfl) (S483.get (k := 0) rfl) rfl rfl hHG485) (set_le hHG485) ?_
                      refine DR.p rfl rfl (p_assign rfl) ?_
                      refine DR.nil 11 [(2, 1), (8, 1), (8, 3), (8, 4)] hst (by kernel_rfl) ⟨(rdN (fun h => S450.hold _ h)), (fun h => absurd h (by decide)), (fun h => absurd h (by decide)), (fun h => absurd h (by decide)), trivial⟩ ?_
                      refine AX.seq ?_
                      obtain ⟨r497, hb498, hd499⟩ := bnd_some hd469
                      refine AX.cut (fun t' H' => ∃ (b496 : Bool), b496 = r497 ∧ St [] H H' [[(i225, AObj.row false ([.int .i64 x208, .slice p213 rs209.length c214]))], oseg p213 (tcells T421), tseg T421] ∧ Am.Sub [(10, .pointer (some ⟨i225, 0, none⟩)), (13, .int .i64 x417), (110, .bool b496)] t') ?_ ?_
                      · skip
                        refine AX.region ?_
                        refine AO.c rfl (s_loadN (vs := [.int .i64 x465, .slice p470 rs466.length c471]) Try.isAgg26 Try.sizeOf26 rfl rfl (row_cells (S486.get (k := 0) rfl))) ?_
                        refine AO.c rfl (s_loadN (vs := [.int .i64 x148, .slice p153 rs149.length c154]) Try.isAgg26 Try.sizeOf26 rfl rfl (row_cells (S486.get (k := 9) rfl))) ?_
                        obtain ⟨b500, h501, hd502⟩ := bnd_some hb498
                        refine AO.c rfl (o_call (vs := [.agg [.int .i64 x465, .slice p470 rs466.length c471].toArray, .agg [.int .i64 x148, .slice p153 rs149.length c154].toArray]) rfl Try.call19 (W_laws_eqSquare fu G485 x465 p470 c471 T474 rs466 t475 (S486.oview (k := 1) rfl B473 (tc_len1 t475 rfl)) (S486.oviewT (k := 2) rfl s476) x148 p153 c154 T157 rs149 t158 (S486.oview (k := 10) rfl B156 (tc_len1 t158 rfl)) (S486.oviewT (k := 11) rfl s159) b500 h501)) ?_
                        refine AO.p rfl (p_not rfl) ?_
                        refine AO.p rfl (p_move rfl) ?_
                        refine AO.cases (d := 106) rfl (fun c504 => ?_) (fun c504 => ?_)
                        · have hd505 := bif_t c504 hd502
                          refine AO.gn rfl rfl rfl ?_
                          refine AO.gn rfl rfl rfl ?_
                          refine AO.gn rfl rfl rfl ?_
                          refine AO.p rfl (p_pickT rfl rfl) ?_
                          refine AO.nil ?_
                          have S506 := S486.front 6 rfl
                          have S507 := S506.front 6 rfl
                          have S508 := S507.front 12 rfl
                          have S509 := S508.keep 3
                          exact ⟨true, (some_inj hd505), S509, Sub.cons' rfl rfl (Sub.cons' rfl rfl (Sub.cons' rfl rfl (Sub.nil _)))⟩
                        · have hd510 := bif_f c504 hd502
                          refine AO.gp rfl rfl rfl (p_move rfl) ?_
                          refine AO.gp rfl rfl rfl (p_move rfl) ?_
                          refine AO.gp rfl rfl rfl (p_neq rfl rfl) ?_
                          refine AO.p rfl (p_pickF rfl rfl) ?_
                          refine AO.nil ?_
                          have S511 := S486.front 6 rfl
                          have S512 := S511.front 6 rfl
                          have S513 := S512.front 12 rfl
                          have S514 := S513.keep 3
                          exact ⟨(!decide (x467 = x150)), (some_inj hd510), S514, Sub.cons' rfl rfl (Sub.cons' rfl rfl (Sub.cons' rfl rfl (Sub.nil _)))⟩
                      · rintro t' G516 ⟨b496, rfl, S515, hsub517⟩
                        refine AX.sub hsub517 ?_
                        refine AX.cond rfl (fun c518 => ?_) (fun c518 => ?_)
                        · have hd519 := bif_t c518 hd499
                          refine AX.seq ?_
                          refine AX.region ?_
                          refine AO.p rfl (p_assign rfl) ?_
                          refine AO.nil ?_
                          refine AX.ret ?_
                          obtain rfl := some_inj hd519
                          exact ⟨.inr rfl, _, res1 rfl (rv_tmp rfl), rfl, (flatB_ok rfl), S515.hold⟩
                        · have hd520 := bif_f c518 hd499
                          refine AX.skip ?_
                          refine AX.seq ?_
                          refine AX.region ?_
                          refine AO.p rfl (p_assign rfl) ?_
                          refine AO.nil ?_
                          refine AX.seq ?_
                          refine AX.region ?_
                          refine AO.c rfl (s_loadN (vs := [.int .i64 x208, .slice p213 rs209.length c214]) Try.isAgg26 Try.sizeOf26 rfl rfl (row_cells (S515.get (k := 0) rfl))) ?_
                          refine AO.p rfl (p_move rfl) ?_
                          obtain ⟨x521, h522, hd523⟩ := bnd_some hd520
                          refine AO.c rfl (o_call (vs := [.agg [.int .i64 x208, .slice p213 rs209.length c214].toArray, .int .i64 1]) rfl Try.call21 (by have h' := W_laws_heldSquare fu G516 x208 p213 c214 T421 rs418 t422 (by rw [show List.length rs418 = rs209.length from (Eq.trans l424 rfl)]; exact (S515.oview (k := 1) rfl B216 (tc_len1 t422 (Eq.trans l424 rfl)))) (S515.oviewT (k := 2) rfl s423) 1 x521 h522; rw [show List.length rs418 = rs209.length from (Eq.trans l424 rfl)] at h'; exact h')) ?_
                          refine AO.p rfl (p_assign rfl) ?_
                          refine AO.nil ?_
                          refine AX.seq ?_
                          refine AX.seq ?_
                          refine AX.region ?_
                          refine AO.p rfl (p_move rfl) ?_
                          refine AO.p rfl (p_lss rfl rfl) ?_
                          refine AO.nil ?_
                          refine AX.cond rfl (fun c525 => ?_) (fun c525 => ?_)
                          · have hd526 := bif_t c525 hd523
                            refine AX.seq ?_
                            refine AX.region ?_
                            refine AO.p rfl (p_assign rfl) ?_
                            refine AO.nil ?_
                            refine AX.ret ?_
                            obtain rfl := some_inj hd526
                            exact ⟨.inr rfl, _, res1 rfl (rv_tmp rfl), rfl, (flatB_ok rfl), S515.hold⟩
                          · have hd527 := bif_f c525 hd523
                            refine AX.skip ?_
                            refine AX.seq ?_
                            refine AX.seq ?_
                            refine AX.region ?_
                            refine AO.p rfl (p_move rfl) ?_
                            refine AO.p rfl (p_move rfl) ?_
                            refine AO.p rfl (p_neq rfl rfl) ?_
                            refine AO.nil ?_
                            refine AX.cond rfl (fun c528 => ?_) (fun c528 => ?_)
                            · have hd529 := bif_t c528 hd527
                              refine AX.seq ?_
                              refine AX.region ?_
                              refine AO.p rfl (p_assign rfl) ?_
                              refine AO.nil ?_
                              refine AX.ret ?_
                              obtain rfl := some_inj hd529
                              exact ⟨.inr rfl, _, res1 rfl (rv_tmp rfl), rfl, (flatB_ok rfl), S515.hold⟩
                            · have hd530 := bif_f c528 hd527
                              refine AX.skip ?_
                              refine AX.seq ?_
                              refine AX.region ?_
                              refine AO.p rfl (p_assign rfl) ?_
                              refine AO.nil ?_
                              refine AX.ret ?_
                              obtain rfl := some_inj hd530
                              exact ⟨.inr rfl, _, res1 rfl (rv_tmp rfl), rfl, (flatB_ok rfl), S515.hold⟩

end Go.Proofs.Ytpaaoafgahbokaa
