/-
  The program computes that, printed by a program. No condition.
-/
import Derived.Test.YtakfkiahhfdjfaaDY
import Derived.Test.YtakfkiahhfdjfaaWG
import Derived.Test.YtakfkiahhfdjfaaProg
import Derived.KernelRfl
namespace Go.Proofs.Ytakfkiahhfdjfaa
open Go Go.RowKit Am
set_option linter.unusedVariables false
set_option linter.unusedSimpArgs false
set_option maxRecDepth 20000
set_option maxHeartbeats 4000000 in
theorem W_laws_FnExactIsAdder (fu : Nat) (H : AHeap) (a0 : Int) (p_a1 : Option Addr) (c_a1 : Nat) (T_a1 : Tb) (a1 : List (List Int)) (t_a1 : trows T_a1 = a1) (v_a1 : Vw H p_a1 a1.length c_a1 (tcells T_a1)) (w_a1 : TVw H T_a1) (p_a2 : Option Addr) (c_a2 : Nat) (a2 : List Int) (v_a2 : Vw H p_a2 a2.length c_a2 (ints a2)) (r0 : Bool) (hd : D_laws_FnExactIsAdder fu a0 a1 a2 = some r0) : ACall Try.prog 6 [.int .i64 a0, .slice p_a1 a1.length c_a1, .slice p_a2 a2.length c_a2] H (.bool r0) H := by
  refine ACall.bodyP (N := 60) [(0, .int .i64 a0), (1, .slice p_a1 a1.length c_a1), (2, .slice p_a2 a2.length c_a2)] Try.func6 rfl rfl rfl rfl ?_
  unfold D_laws_FnExactIsAdder at hd
  have S0 : St [] H H [] := St.nil H
  refine AX.seq ?_
  refine AX.region ?_
  refine AO.p rfl (p_assign rfl) ?_
  refine AO.nil ?_
  refine AX.seq ?_
  refine AX.seq ?_
  refine AX.region ?_
  refine AO.p rfl (p_move rfl) ?_
  refine AO.p rfl (p_len_slice rfl Try.underlying34) ?_
  refine AO.p rfl (p_gtr rfl rfl) ?_
  refine AO.nil ?_
  refine AX.cond rfl (fun c100 => ?_) (fun c100 => ?_)
  · have hd101 := bif_t c100 hd
    refine AX.seq ?_
    refine AX.region ?_
    refine AO.p rfl (p_assign rfl) ?_
    refine AO.nil ?_
    refine AX.ret ?_
    obtain rfl := some_inj hd101
    exact ⟨.inr rfl, _, res1 rfl (rv_tmp rfl), rfl, (flatB_ok rfl), S0.hold⟩
  · have hd102 := bif_f c100 hd
    refine AX.skip ?_
    refine AX.seq ?_
    refine AX.region ?_
    refine AO.p rfl (p_assign rfl) ?_
    refine AO.nil ?_
    refine AX.seq ?_
    refine AX.region ?_
    refine AO.p rfl (p_move rfl) ?_
    refine AO.p rfl (p_move rfl) ?_
    obtain ⟨x103, h104, hd105⟩ := bnd_some hd102
    refine AO.c rfl (o_call (vs := [.slice p_a1 a1.length c_a1, .int .i64 1048576]) rfl Try.call13 (W_laws_szInt64SS fu H p_a1 c_a1 T_a1 a1 t_a1 (S0.view v_a1) (S0.tview w_a1) 1048576 x103 h104)) ?_
    refine AO.p rfl (p_assign rfl) ?_
    refine AO.nil ?_
    refine AX.seq ?_
    refine AX.seq ?_
    refine AX.region ?_
    refine AO.p rfl (p_move rfl) ?_
    refine AO.p rfl (p_lss rfl rfl) ?_
    refine AO.nil ?_
    refine AX.cond rfl (fun c107 => ?_) (fun c107 => ?_)
    · have hd108 := bif_t c107 hd105
      refine AX.seq ?_
      refine AX.region ?_
      refine AO.p rfl (p_assign rfl) ?_
      refine AO.nil ?_
      refine AX.ret ?_
      obtain rfl := some_inj hd108
      exact ⟨.inr rfl, _, res1 rfl (rv_tmp rfl), rfl, (flatB_ok rfl), S0.hold⟩
    · have hd109 := bif_f c107 hd105
      refine AX.skip ?_
      refine AX.seq ?_
      refine AX.region ?_
      refine AO.p rfl (p_move rfl) ?_
      refine AO.p rfl (p_move rfl) ?_
      obtain ⟨rs110, h111, hd112⟩ := bnd_some hd109
      obtain ⟨_, G121, hc120, p113, c114, T117, rfl, S122, B116, t118, s119⟩ := W_laws_toInt64SS fu H p_a1 c_a1 T_a1 a1 t_a1 (S0.view v_a1) (S0.tview w_a1) rs110 h111
      have S123 := S0.call S122
      refine AO.c rfl (o_call (vs := [.slice p_a1 a1.length c_a1]) rfl Try.call15 hc120) ?_
      refine AO.p rfl (p_move rfl) ?_
      obtain ⟨xs124, h125, hd126⟩ := bnd_some hd112
      obtain ⟨_, G132, hc131, p127, c128, rfl, S133, B130⟩ := W_laws_toInt64S fu G121 p_a2 c_a2 a2 (S123.view v_a2) xs124 h125
      have S134 := S123.call S133
      refine AO.c rfl (o_call (vs := [.slice p_a2 a2.length c_a2]) rfl Try.call23 hc131) ?_
      obtain ⟨⟨b135, x136⟩, h137, hd138⟩ := bnd_some hd126
      refine AO.c rfl (o_call (vs := [.int .i64 a0, .slice p113 rs110.length c114, .slice p127 xs124.length c128]) rfl Try.call30 (W_spec_IsAdder fu G132 a0 p113 c114 T117 rs110 t118 (S134.oview (k := 1) rfl B116 (tc_len1 t118 rfl)) (S134.oviewT (k := 2) rfl s119) p127 c128 xs124 (S134.oview (k := 0) rfl B130 (ints_len1 rfl)) b135 x136 h137)) ?_
      refine AO.p rfl (p_move rfl) ?_
      refine AO.p rfl (p_extract rfl rfl) ?_
      refine AO.p rfl (p_extract rfl rfl) ?_
      refine AO.p rfl (p_assign rfl) ?_
      refine AO.p rfl (p_assign rfl) ?_
      refine AO.nil ?_
      refine AX.seq ?_
      refine AX.region ?_
      refine AO.p rfl (p_move rfl) ?_
      obtain ⟨rs140, h141, hd142⟩ := bnd_some hd138
      obtain ⟨_, G151, hc150, p143, c144, T147, rfl, S152, B146, t148, s149⟩ := W_laws_toInt64SS fu G132 p_a1 c_a1 T_a1 a1 t_a1 (S134.view v_a1) (S134.tview w_a1) rs140 h141
      have S153 := S134.call S152
      refine AO.c rfl (o_call (vs := [.slice p_a1 a1.length c_a1]) rfl Try.call15 hc150) ?_
      refine AO.p rfl (p_assign rfl) ?_
      refine AO.nil ?_
      refine AX.seq ?_
      refine AX.region ?_
      refine AO.p rfl (p_move rfl) ?_
      obtain ⟨xs154, h155, hd156⟩ := bnd_some hd142
      obtain ⟨_, G162, hc161, p157, c158, rfl, S163, B160⟩ := W_laws_toInt64S fu G151 p_a2 c_a2 a2 (S153.view v_a2) xs154 h155
      have S164 := S153.call S163
      refine AO.c rfl (o_call (vs := [.slice p_a2 a2.length c_a2]) rfl Try.call23 hc161) ?_
      refine AO.p rfl (p_assign rfl) ?_
      refine AO.nil ?_
      refine AX.seq ?_
      refine AX.region ?_
      refine AO.p rfl (p_move rfl) ?_
      refine AO.p rfl (p_move rfl) ?_
      refine AO.p rfl (p_move rfl) ?_
      obtain ⟨⟨b165, x166⟩, h167, hd168⟩ := bnd_some hd156
      refine AO.c rfl (o_call (vs := [.int .i64 a0, .slice p143 rs140.length c144, .slice p157 xs154.length c158]) rfl Try.call31 (W_impl_IsAdder fu G162 a0 p143 c144 T147 rs140 t148 (S164.oview (k := 1) rfl B146 (tc_len1 t148 rfl)) (S164.oviewT (k := 2) rfl s149) p157 c158 xs154 (S164.oview (k := 0) rfl B160 (ints_len1 rfl)) b165 x166 h167)) ?_
      refine AO.p rfl (p_move rfl) ?_
      refine AO.p rfl (p_extract rfl rfl) ?_
      refine AO.p rfl (p_extract rfl rfl) ?_
      refine AO.p rfl (p_assign rfl) ?_
      refine AO.p rfl (p_assign rfl) ?_
      refine AO.nil ?_
      refine AX.seq ?_
      refine AX.cut (fun t' H' => G162 = H' ∧ Am.Sub [(1, .slice p_a1 a1.length c_a1), (2, .slice p_a2 a2.length c_a2), (10, .slice p143 rs140.length c144), (11, .slice p157 xs154.length c158), (49, .bool ((!(b165 == b135)) || (!decide (x166 = x136))))] t') ?_ ?_
      · skip
        refine AX.region ?_
        refine AO.p rfl (p_move rfl) ?_
        refine AO.p rfl (p_move rfl) ?_
        refine AO.p rfl (p_bneq Try.underlying4 rfl rfl) ?_
        refine AO.p rfl (p_move rfl) ?_
        refine AO.cases (d := 45) rfl (fun c173 => ?_) (fun c173 => ?_)
        · skip
          refine AO.gn rfl rfl rfl ?_
          refine AO.gn rfl rfl rfl ?_
          refine AO.gn rfl rfl rfl ?_
          refine AO.p rfl (p_pickT rfl rfl) ?_
          refine AO.nil ?_
          exact ⟨rfl, Sub.cons' rfl rfl (Sub.cons' rfl rfl (Sub.cons' rfl rfl (Sub.cons' rfl rfl (Sub.cons' rfl (bool_eq (by simp only [c173, Bool.true_and, Bool.false_and, Bool.and_true, Bool.and_false, Bool.true_or, Bool.false_or, Bool.or_true, Bool.or_false, Bool.not_true, Bool.not_false, cond_true, cond_false])) (Sub.nil _)))))⟩
        · skip
          refine AO.gp rfl rfl rfl (p_move rfl) ?_
          refine AO.gp rfl rfl rfl (p_move rfl) ?_
          refine AO.gp rfl rfl rfl (p_neq rfl rfl) ?_
          refine AO.p rfl (p_pickF rfl rfl) ?_
          refine AO.nil ?_
          exact ⟨rfl, Sub.cons' rfl rfl (Sub.cons' rfl rfl (Sub.cons' rfl rfl (Sub.cons' rfl rfl (Sub.cons' rfl (bool_eq (by simp only [c173, Bool.true_and, Bool.false_and, Bool.and_true, Bool.and_false, Bool.true_or, Bool.false_or, Bool.or_true, Bool.or_false, Bool.not_true, Bool.not_false, cond_true, cond_false])) (Sub.nil _)))))⟩
      · rintro t' _ ⟨rfl, hsub174⟩
        refine AX.sub hsub174 ?_
        refine AX.cond rfl (fun c175 => ?_) (fun c175 => ?_)
        · have hd176 := bif_t c175 hd168
          refine AX.seq ?_
          refine AX.region ?_
          refine AO.p rfl (p_assign rfl) ?_
          refine AO.nil ?_
          refine AX.ret ?_
          obtain rfl := some_inj hd176
          exact ⟨.inr rfl, _, res1 rfl (rv_tmp rfl), rfl, (flatB_ok rfl), S164.hold⟩
        · have hd177 := bif_f c175 hd168
          refine AX.skip ?_
          refine AX.seq ?_
          refine AX.seq ?_
          refine AX.region ?_
          refine AO.p rfl (p_move rfl) ?_
          refine AO.p rfl (p_move rfl) ?_
          obtain ⟨rs178, h179, hd180⟩ := bnd_some hd177
          obtain ⟨_, G189, hc188, p181, c182, T185, rfl, S190, B184, t186, s187⟩ := W_laws_toInt64SS fu G162 p_a1 c_a1 T_a1 a1 t_a1 (S164.view v_a1) (S164.tview w_a1) rs178 h179
          have S191 := S164.call S190
          refine AO.c rfl (o_call (vs := [.slice p_a1 a1.length c_a1]) rfl Try.call15 hc188) ?_
          obtain ⟨b192, h193, hd194⟩ := bnd_some hd180
          refine AO.c rfl (o_call (vs := [.slice p143 rs140.length c144, .slice p181 rs178.length c182]) rfl Try.call17 (W_laws_eqInt64SS fu G189 p143 c144 T147 rs140 t148 (S191.oview (k := 3) rfl B146 (tc_len1 t148 rfl)) (S191.oviewT (k := 4) rfl s149) p181 c182 T185 rs178 t186 (S191.oview (k := 0) rfl B184 (tc_len1 t186 rfl)) (S191.oviewT (k := 1) rfl s187) b192 h193)) ?_
          refine AO.p rfl (p_not rfl) ?_
          refine AO.nil ?_
          refine AX.cond rfl (fun c196 => ?_) (fun c196 => ?_)
          · have hd197 := bif_t c196 hd194
            refine AX.seq ?_
            refine AX.region ?_
            refine AO.p rfl (p_assign rfl) ?_
            refine AO.nil ?_
            refine AX.ret ?_
            obtain rfl := some_inj hd197
            exact ⟨.inr rfl, _, res1 rfl (rv_tmp rfl), rfl, (flatB_ok rfl), S191.hold⟩
          · have hd198 := bif_f c196 hd194
            refine AX.skip ?_
            refine AX.seq ?_
            refine AX.seq ?_
            refine AX.region ?_
            refine AO.p rfl (p_move rfl) ?_
            refine AO.p rfl (p_move rfl) ?_
            obtain ⟨xs199, h200, hd201⟩ := bnd_some hd198
            obtain ⟨_, G207, hc206, p202, c203, rfl, S208, B205⟩ := W_laws_toInt64S fu G189 p_a2 c_a2 a2 (S191.view v_a2) xs199 h200
            have S209 := S191.call S208
            refine AO.c rfl (o_call (vs := [.slice p_a2 a2.length c_a2]) rfl Try.call23 hc206) ?_
            obtain ⟨b210, h211, hd212⟩ := bnd_some hd201
            refine AO.c rfl (o_call (vs := [.slice p157 xs154.length c158, .slice p202 xs199.length c203]) rfl Try.call26 (W_laws_eqInt64S fu G207 p157 c158 xs154 (S209.oview (k := 3) rfl B160 (ints_len1 rfl)) p202 c203 xs199 (S209.oview (k := 0) rfl B205 (ints_len1 rfl)) b210 h211)) ?_
            refine AO.p rfl (p_not rfl) ?_
            refine AO.nil ?_
            refine AX.cond rfl (fun c214 => ?_) (fun c214 => ?_)
            · have hd215 := bif_t c214 hd212
              refine AX.seq ?_
              refine AX.region ?_
              refine AO.p rfl (p_assign rfl) ?_
              refine AO.nil ?_
              refine AX.ret ?_
              obtain rfl := some_inj hd215
              exact ⟨.inr rfl, _, res1 rfl (rv_tmp rfl), rfl, (flatB_ok rfl), S209.hold⟩
            · have hd216 := bif_f c214 hd212
              refine AX.skip ?_
              refine AX.seq ?_
              refine AX.region ?_
              refine AO.p rfl (p_assign rfl) ?_
              refine AO.nil ?_
              refine AX.ret ?_
              obtain rfl := some_inj hd216
              exact ⟨.inr rfl, _, res1 rfl (rv_tmp rfl), rfl, (flatB_ok rfl), S209.hold⟩

set_option maxHeartbeats 4000000 in
theorem W_laws_FnExactAreOrthogonal (fu : Nat) (H : AHeap) (a0 : Int) (p_a1 : Option Addr) (c_a1 : Nat) (T_a1 : Tb) (a1 : List (List Int)) (t_a1 : trows T_a1 = a1) (v_a1 : Vw H p_a1 a1.length c_a1 (tcells T_a1)) (w_a1 : TVw H T_a1) (p_a2 : Option Addr) (c_a2 : Nat) (T_a2 : Tb) (a2 : List (List Int)) (t_a2 : trows T_a2 = a2) (v_a2 : Vw H p_a2 a2.length c_a2 (tcells T_a2)) (w_a2 : TVw H T_a2) (r0 : Bool) (hd : D_laws_FnExactAreOrthogonal fu a0 a1 a2 = some r0) : ACall Try.prog 4 [.int .i64 a0, .slice p_a1 a1.length c_a1, .slice p_a2 a2.length c_a2] H (.bool r0) H := by
  refine ACall.bodyP (N := 62) [(0, .int .i64 a0), (1, .slice p_a1 a1.length c_a1), (2, .slice p_a2 a2.length c_a2)] Try.func4 rfl rfl rfl rfl ?_
  unfold D_laws_FnExactAreOrthogonal at hd
  have S0 : St [] H H [] := St.nil H
  refine AX.seq ?_
  refine AX.region ?_
  refine AO.p rfl (p_assign rfl) ?_
  refine AO.nil ?_
  refine AX.seq ?_
  refine AX.region ?_
  refine AO.p rfl (p_assign rfl) ?_
  refine AO.nil ?_
  refine AX.seq ?_
  refine AX.region ?_
  refine AO.p rfl (p_move rfl) ?_
  refine AO.p rfl (p_move rfl) ?_
  obtain ⟨x100, h101, hd102⟩ := bnd_some hd
  refine AO.c rfl (o_call (vs := [.slice p_a1 a1.length c_a1, .int .i64 1048576]) rfl Try.call13 (W_laws_szInt64SS fu H p_a1 c_a1 T_a1 a1 t_a1 (S0.view v_a1) (S0.tview w_a1) 1048576 x100 h101)) ?_
  refine AO.p rfl (p_assign rfl) ?_
  refine AO.nil ?_
  refine AX.seq ?_
  refine AX.seq ?_
  refine AX.region ?_
  refine AO.p rfl (p_move rfl) ?_
  refine AO.p rfl (p_lss rfl rfl) ?_
  refine AO.nil ?_
  refine AX.cond rfl (fun c104 => ?_) (fun c104 => ?_)
  · have hd105 := bif_t c104 hd102
    refine AX.seq ?_
    refine AX.region ?_
    refine AO.p rfl (p_assign rfl) ?_
    refine AO.nil ?_
    refine AX.ret ?_
    obtain rfl := some_inj hd105
    exact ⟨.inr rfl, _, res1 rfl (rv_tmp rfl), rfl, (flatB_ok rfl), S0.hold⟩
  · have hd106 := bif_f c104 hd102
    refine AX.skip ?_
    refine AX.seq ?_
    refine AX.region ?_
    refine AO.p rfl (p_move rfl) ?_
    refine AO.p rfl (p_move rfl) ?_
    obtain ⟨x107, h108, hd109⟩ := bnd_some hd106
    refine AO.c rfl (o_call (vs := [.slice p_a2 a2.length c_a2, .int .i64 x100]) rfl Try.call13 (W_laws_szInt64SS fu H p_a2 c_a2 T_a2 a2 t_a2 (S0.view v_a2) (S0.tview w_a2) x100 x107 h108)) ?_
    refine AO.p rfl (p_assign rfl) ?_
    refine AO.nil ?_
    refine AX.seq ?_
    refine AX.seq ?_
    refine AX.region ?_
    refine AO.p rfl (p_move rfl) ?_
    refine AO.p rfl (p_lss rfl rfl) ?_
    refine AO.nil ?_
    refine AX.cond rfl (fun c111 => ?_) (fun c111 => ?_)
    · have hd112 := bif_t c111 hd109
      refine AX.seq ?_
      refine AX.region ?_
      refine AO.p rfl (p_assign rfl) ?_
      refine AO.nil ?_
      refine AX.ret ?_
      obtain rfl := some_inj hd112
      exact ⟨.inr rfl, _, res1 rfl (rv_tmp rfl), rfl, (flatB_ok rfl), S0.hold⟩
    · have hd113 := bif_f c111 hd109
      refine AX.skip ?_
      refine AX.seq ?_
      refine AX.region ?_
      refine AO.p rfl (p_move rfl) ?_
      refine AO.p rfl (p_move rfl) ?_
      obtain ⟨rs114, h115, hd116⟩ := bnd_some hd113
      obtain ⟨_, G125, hc124, p117, c118, T121, rfl, S126, B120, t122, s123⟩ := W_laws_toInt64SS fu H p_a1 c_a1 T_a1 a1 t_a1 (S0.view v_a1) (S0.tview w_a1) rs114 h115
      have S127 := S0.call S126
      refine AO.c rfl (o_call (vs := [.slice p_a1 a1.length c_a1]) rfl Try.call15 hc124) ?_
      refine AO.p rfl (p_move rfl) ?_
      obtain ⟨rs128, h129, hd130⟩ := bnd_some hd116
      obtain ⟨_, G139, hc138, p131, c132, T135, rfl, S140, B134, t136, s137⟩ := W_laws_toInt64SS fu G125 p_a2 c_a2 T_a2 a2 t_a2 (S127.view v_a2) (S127.tview w_a2) rs128 h129
      have S141 := S127.call S140
      refine AO.c rfl (o_call (vs := [.slice p_a2 a2.length c_a2]) rfl Try.call15 hc138) ?_
      obtain ⟨⟨b142, x143⟩, h144, hd145⟩ := bnd_some hd130
      refine AO.c rfl (o_call (vs := [.int .i64 a0, .slice p117 rs114.length c118, .slice p131 rs128.length c132]) rfl Try.call18 (W_spec_AreOrthogonal fu G139 a0 p117 c118 T121 rs114 t122 (S141.oview (k := 2) rfl B120 (tc_len1 t122 rfl)) (S141.oviewT (k := 3) rfl s123) p131 c132 T135 rs128 t136 (S141.oview (k := 0) rfl B134 (tc_len1 t136 rfl)) (S141.oviewT (k := 1) rfl s137) b142 x143 h144)) ?_
      refine AO.p rfl (p_move rfl) ?_
      refine AO.p rfl (p_extract rfl rfl) ?_
      refine AO.p rfl (p_extract rfl rfl) ?_
      refine AO.p rfl (p_assign rfl) ?_
      refine AO.p rfl (p_assign rfl) ?_
      refine AO.nil ?_
      refine AX.seq ?_
      refine AX.region ?_
      refine AO.p rfl (p_move rfl) ?_
      obtain ⟨rs147, h148, hd149⟩ := bnd_some hd145
      obtain ⟨_, G158, hc157, p150, c151, T154, rfl, S159, B153, t155, s156⟩ := W_laws_toInt64SS fu G139 p_a1 c_a1 T_a1 a1 t_a1 (S141.view v_a1) (S141.tview w_a1) rs147 h148
      have S160 := S141.call S159
      refine AO.c rfl (o_call (vs := [.slice p_a1 a1.length c_a1]) rfl Try.call15 hc157) ?_
      refine AO.p rfl (p_assign rfl) ?_
      refine AO.nil ?_
      refine AX.seq ?_
      refine AX.region ?_
      refine AO.p rfl (p_move rfl) ?_
      obtain ⟨rs161, h162, hd163⟩ := bnd_some hd149
      obtain ⟨_, G172, hc171, p164, c165, T168, rfl, S173, B167, t169, s170⟩ := W_laws_toInt64SS fu G158 p_a2 c_a2 T_a2 a2 t_a2 (S160.view v_a2) (S160.tview w_a2) rs161 h162
      have S174 := S160.call S173
      refine AO.c rfl (o_call (vs := [.slice p_a2 a2.length c_a2]) rfl Try.call15 hc171) ?_
      refine AO.p rfl (p_assign rfl) ?_
      refine AO.nil ?_
      refine AX.seq ?_
      refine AX.region ?_
      refine AO.p rfl (p_move rfl) ?_
      refine AO.p rfl (p_move rfl) ?_
      refine AO.p rfl (p_move rfl) ?_
      obtain ⟨⟨b175, x176⟩, h177, hd178⟩ := bnd_some hd163
      refine AO.c rfl (o_call (vs := [.int .i64 a0, .slice p150 rs147.length c151, .slice p164 rs161.length c165]) rfl Try.call19 (W_impl_AreOrthogonal fu G172 a0 p150 c151 T154 rs147 t155 (S174.oview (k := 2) rfl B153 (tc_len1 t155 rfl)) (S174.oviewT (k := 3) rfl s156) p164 c165 T168 rs161 t169 (S174.oview (k := 0) rfl B167 (tc_len1 t169 rfl)) (S174.oviewT (k := 1) rfl s170) b175 x176 h177)) ?_
      refine AO.p rfl (p_move rfl) ?_
      refine AO.p rfl (p_extract rfl rfl) ?_
      refine AO.p rfl (p_extract rfl rfl) ?_
      refine AO.p rfl (p_assign rfl) ?_
      refine AO.p rfl (p_assign rfl) ?_
      refine AO.nil ?_
      refine AX.seq ?_
      refine AX.cut (fun t' H' => G172 = H' ∧ Am.Sub [(1, .slice p_a1 a1.length c_a1), (2, .slice p_a2 a2.length c_a2), (10, .slice p150 rs147.length c151), (11, .slice p164 rs161.length c165), (51, .bool ((!(b175 == b142)) || (!decide (x176 = x143))))] t') ?_ ?_
      · skip
        refine AX.region ?_
        refine AO.p rfl (p_move rfl) ?_
        refine AO.p rfl (p_move rfl) ?_
        refine AO.p rfl (p_bneq Try.underlying4 rfl rfl) ?_
        refine AO.p rfl (p_move rfl) ?_
        refine AO.cases (d := 47) rfl (fun c183 => ?_) (fun c183 => ?_)
        · skip
          refine AO.gn rfl rfl rfl ?_
          refine AO.gn rfl rfl rfl ?_
          refine AO.gn rfl rfl rfl ?_
          refine AO.p rfl (p_pickT rfl rfl) ?_
          refine AO.nil ?_
          exact ⟨rfl, Sub.cons' rfl rfl (Sub.cons' rfl rfl (Sub.cons' rfl rfl (Sub.cons' rfl rfl (Sub.cons' rfl (bool_eq (by simp only [c183, Bool.true_and, Bool.false_and, Bool.and_true, Bool.and_false, Bool.true_or, Bool.false_or, Bool.or_true, Bool.or_false, Bool.not_true, Bool.not_false, cond_true, cond_false])) (Sub.nil _)))))⟩
        · skip
          refine AO.gp rfl rfl rfl (p_move rfl) ?_
          refine AO.gp rfl rfl rfl (p_move rfl) ?_
          refine AO.gp rfl rfl rfl (p_neq rfl rfl) ?_
          refine AO.p rfl (p_pickF rfl rfl) ?_
          refine AO.nil ?_
          exact ⟨rfl, Sub.cons' rfl rfl (Sub.cons' rfl rfl (Sub.cons' rfl rfl (Sub.cons' rfl rfl (Sub.cons' rfl (bool_eq (by simp only [c183, Bool.true_and, Bool.false_and, Bool.and_true, Bool.and_false, Bool.true_or, Bool.false_or, Bool.or_true, Bool.or_false, Bool.not_true, Bool.not_false, cond_true, cond_false])) (Sub.nil _)))))⟩
      · rintro t' _ ⟨rfl, hsub184⟩
        refine AX.sub hsub184 ?_
        refine AX.cond rfl (fun c185 => ?_) (fun c185 => ?_)
        · have hd186 := bif_t c185 hd178
          refine AX.seq ?_
          refine AX.region ?_
          refine AO.p rfl (p_assign rfl) ?_
          refine AO.nil ?_
          refine AX.ret ?_
          obtain rfl := some_inj hd186
          exact ⟨.inr rfl, _, res1 rfl (rv_tmp rfl), rfl, (flatB_ok rfl), S174.hold⟩
        · have hd187 := bif_f c185 hd178
          refine AX.skip ?_
          refine AX.seq ?_
          refine AX.seq ?_
          refine AX.region ?_
          refine AO.p rfl (p_move rfl) ?_
          refine AO.p rfl (p_move rfl) ?_
          obtain ⟨rs188, h189, hd190⟩ := bnd_some hd187
          obtain ⟨_, G199, hc198, p191, c192, T195, rfl, S200, B194, t196, s197⟩ := W_laws_toInt64SS fu G172 p_a1 c_a1 T_a1 a1 t_a1 (S174.view v_a1) (S174.tview w_a1) rs188 h189
          have S201 := S174.call S200
          refine AO.c rfl (o_call (vs := [.slice p_a1 a1.length c_a1]) rfl Try.call15 hc198) ?_
          obtain ⟨b202, h203, hd204⟩ := bnd_some hd190
          refine AO.c rfl (o_call (vs := [.slice p150 rs147.length c151, .slice p191 rs188.length c192]) rfl Try.call17 (W_laws_eqInt64SS fu G199 p150 c151 T154 rs147 t155 (S201.oview (k := 4) rfl B153 (tc_len1 t155 rfl)) (S201.oviewT (k := 5) rfl s156) p191 c192 T195 rs188 t196 (S201.oview (k := 0) rfl B194 (tc_len1 t196 rfl)) (S201.oviewT (k := 1) rfl s197) b202 h203)) ?_
          refine AO.p rfl (p_not rfl) ?_
          refine AO.nil ?_
          refine AX.cond rfl (fun c206 => ?_) (fun c206 => ?_)
          · have hd207 := bif_t c206 hd204
            refine AX.seq ?_
            refine AX.region ?_
            refine AO.p rfl (p_assign rfl) ?_
            refine AO.nil ?_
            refine AX.ret ?_
            obtain rfl := some_inj hd207
            exact ⟨.inr rfl, _, res1 rfl (rv_tmp rfl), rfl, (flatB_ok rfl), S201.hold⟩
          · have hd208 := bif_f c206 hd204
            refine AX.skip ?_
            refine AX.seq ?_
            refine AX.seq ?_
            refine AX.region ?_
            refine AO.p rfl (p_move rfl) ?_
            refine AO.p rfl (p_move rfl) ?_
            obtain ⟨rs209, h210, hd211⟩ := bnd_some hd208
            obtain ⟨_, G220, hc219, p212, c213, T216, rfl, S221, B215, t217, s218⟩ := W_laws_toInt64SS fu G199 p_a2 c_a2 T_a2 a2 t_a2 (S201.view v_a2) (S201.tview w_a2) rs209 h210
            have S222 := S201.call S221
            refine AO.c rfl (o_call (vs := [.slice p_a2 a2.length c_a2]) rfl Try.call15 hc219) ?_
            obtain ⟨b223, h224, hd225⟩ := bnd_some hd211
            refine AO.c rfl (o_call (vs := [.slice p164 rs161.length c165, .slice p212 rs209.length c213]) rfl Try.call17 (W_laws_eqInt64SS fu G220 p164 c165 T168 rs161 t169 (S222.oview (k := 4) rfl B167 (tc_len1 t169 rfl)) (S222.oviewT (k := 5) rfl s170) p212 c213 T216 rs209 t217 (S222.oview (k := 0) rfl B215 (tc_len1 t217 rfl)) (S222.oviewT (k := 1) rfl s218) b223 h224)) ?_
            refine AO.p rfl (p_not rfl) ?_
            refine AO.nil ?_
            refine AX.cond rfl (fun c227 => ?_) (fun c227 => ?_)
            · have hd228 := bif_t c227 hd225
              refine AX.seq ?_
              refine AX.region ?_
              refine AO.p rfl (p_assign rfl) ?_
              refine AO.nil ?_
              refine AX.ret ?_
              obtain rfl := some_inj hd228
              exact ⟨.inr rfl, _, res1 rfl (rv_tmp rfl), rfl, (flatB_ok rfl), S222.hold⟩
            · have hd229 := bif_f c227 hd225
              refine AX.skip ?_
              refine AX.seq ?_
              refine AX.region ?_
              refine AO.p rfl (p_assign rfl) ?_
              refine AO.nil ?_
              refine AX.ret ?_
              obtain rfl := some_inj hd229
              exact ⟨.inr rfl, _, res1 rfl (rv_tmp rfl), rfl, (flatB_ok rfl), S222.hold⟩

end Go.Proofs.Ytakfkiahhfdjfaa
