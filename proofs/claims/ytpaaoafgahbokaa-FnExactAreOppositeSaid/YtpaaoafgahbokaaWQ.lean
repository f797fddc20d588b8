/-
  The program computes that, printed by a program. No condition.
-/
import Derived.Test.YtpaaoafgahbokaaDQ
import Derived.Test.YtpaaoafgahbokaaWO
import Derived.Test.YtpaaoafgahbokaaProg
import Derived.KernelRfl
namespace Go.Proofs.Ytpaaoafgahbokaa
open Go Go.RowKit Am
set_option linter.unusedVariables false
set_option linter.unusedSimpArgs false
set_option maxRecDepth 20000
set_option maxHeartbeats 4000000 in
theorem W_spec_l01Teams (fu : Nat) (H : AHeap) (a0_0 : Int) (p_a0_1 : Option Addr) (c_a0_1 : Nat) (a0_1 : List (List Int)) (a_a0_1 : All 14 a0_1) (v_a0_1 : Vw H p_a0_1 a0_1.length c_a0_1 (ints a0_1.flatten)) (p_a1 : Option Addr) (c_a1 : Nat) (a1 : List Int) (v_a1 : Vw H p_a1 a1.length c_a1 (ints a1)) (r0 : Int) (hd : D_spec_l01Teams fu a0_0 a0_1 a1 = some r0) : ACall Try.prog 138 [.agg [.int .i64 a0_0, .slice p_a0_1 a0_1.length c_a0_1].toArray, .slice p_a1 a1.length c_a1] H (.int .i64 r0) H := by
  refine ACall.bodyP (N := 24) [(0, .agg [.int .i64 a0_0, .slice p_a0_1 a0_1.length c_a0_1].toArray), (1, .slice p_a1 a1.length c_a1)] Try.func138 rfl rfl rfl rfl ?_
  unfold D_spec_l01Teams at hd
  have S0 : St [] H H [] := St.nil H
  refine AX.seq ?_
  refine AX.region ?_
  obtain ⟨G100, i101, hii101, hHG100, S102⟩ := S0.new (AObj.row false ([.int .i64 a0_0, .slice p_a0_1 a0_1.length c_a0_1]))
  refine AO.c rfl (s_box (i := i101) (cs := [.int .i64 a0_0, .slice p_a0_1 a0_1.length c_a0_1]) rfl hii101 rfl hHG100) ?_
  refine AO.p rfl (p_assign rfl) ?_
  refine AO.nil ?_
  refine AX.seq ?_
  refine AX.seq ?_
  refine AX.region ?_
  refine AO.c rfl (s_loadN (vs := [.int .i64 a0_0, .slice p_a0_1 a0_1.length c_a0_1]) Try.isAgg39 Try.sizeOf39 rfl rfl (row_cells (S102.get (k := 0) rfl))) ?_
  obtain ⟨b104, h105, hd106⟩ := bnd_some hd
  refine AO.c rfl (o_call (vs := [.agg [.int .i64 a0_0, .slice p_a0_1 a0_1.length c_a0_1].toArray]) rfl Try.call63 (W_spec_l01Is fu G100 a0_0 p_a0_1 c_a0_1 a0_1 a_a0_1 (S102.view v_a0_1) b104 h105)) ?_
  refine AO.p rfl (p_not rfl) ?_
  refine AO.nil ?_
  refine AX.cond rfl (fun c108 => ?_) (fun c108 => ?_)
  · have hd109 := bif_t c108 hd106
    refine AX.seq ?_
    refine AX.region ?_
    refine AO.p rfl (p_assign rfl) ?_
    refine AO.nil ?_
    refine AX.ret ?_
    obtain rfl := some_inj hd109
    exact ⟨.inr rfl, _, res1 rfl (rv_tmp rfl), rfl, (flatB_ok rfl), S102.hold⟩
  · have hd110 := bif_f c108 hd106
    refine AX.skip ?_
    refine AX.seq ?_
    refine AX.seq ?_
    refine AX.region ?_
    refine AO.p rfl (p_assign rfl) ?_
    refine AO.nil ?_
    obtain ⟨r173, hl174, hd175⟩ := bnd_some hd110
    refine AX.cutQ (fun t' H' => .inl () = r173 ∧ St [] H H' [] ∧ Am.Sub [] t') ?_ ?_
    · refine AX.block ?_
      refine AX.loopF (fun s' t' H' => ∃ (x153 : Int), x153 = s' ∧ St [] H H' [[(i101, AObj.row false ([.int .i64 a0_0, .slice p_a0_1 a0_1.length c_a0_1]))]] ∧ Am.Sub [(1, .slice p_a1 a1.length c_a1), (2, .pointer (some ⟨i101, 0, none⟩)), (5, .int .i64 x153)] t') hl174 ?_ ?_
      · skip
        have S176 := S102.front 0 rfl
        exact ⟨0, rfl, S176, Sub.cons' rfl rfl (Sub.cons' rfl rfl (Sub.cons' rfl rfl (Sub.nil _)))⟩
      · rintro n177 _ t' G181 ⟨x153, rfl, S180, hsub182⟩ o183 ho178 hk179
        refine AX.sub hsub182 ?_
        unfold D_spec_l01Teams_s0 at ho178
        refine AX.seq ?_
        refine AX.seq ?_
        refine AX.region ?_
        refine AO.p rfl (p_move rfl) ?_
        refine AO.p rfl (p_move rfl) ?_
        refine AO.p rfl (p_len_slice rfl Try.underlying68) ?_
        refine AO.p rfl (p_lss rfl rfl) ?_
        refine AO.nil ?_
        refine AX.cond rfl (fun c184 => ?_) (fun c184 => ?_)
        · have hd185 := bif_t c184 ho178
          refine AX.skip ?_
          refine AX.seq ?_
          refine AX.block ?_
          refine AX.seq ?_
          refine DR.startS [false, false, false, false, false, false, false, true, false] mix (by kernel_rfl) (fun hst => ?_)
          refine DR.p rfl rfl (p_move rfl) ?_
          refine DR.p rfl rfl (p_move rfl) ?_
          obtain ⟨k186, hd187⟩ := chk_some hd185
          refine DR.p rfl rfl (s_indexV (q := off p_a1 + x153.toNat) Try.underlying68 Try.sizeOf2 rfl ((S180.view v_a1).p (ints_get (lt_len rfl (inR_lt k186)))) rfl k186 (o1 _ _)) ?_
          refine DR.r rfl rfl (r_load rfl Try.isAgg2) (one_read ((S180.view v_a1).get _ _ (ints_get (lt_len rfl (inR_lt k186)))) (.of_flat0 rfl)) ?_
          refine DR.p rfl rfl (s_fieldAddr Try.underlying39 rfl Try.sizeOf2 (by decide) rfl rfl) ?_
          refine DR.r rfl rfl (r_load rfl Try.isAgg2) (one_read (row_cell (S180.get (k := 0) rfl) rfl) (.of_flat0 rfl)) ?_
          obtain ⟨k188, hd189⟩ := chk_some hd187
          refine DR.p rfl rfl (p_subE rfl rfl k188) ?_
          obtain ⟨b190, h191, hd192⟩ := bnd_some hd189
          refine DR.w rfl rfl (o_call (vs := [.int .i64 (rd a1 x153.toNat), .int .i64 0, .int .i64 (a0_0 - 1)]) rfl Try.call110 (W_spec_l01In fu G181 (rd a1 x153.toNat) 0 (a0_0 - 1) b190 h191)) (Nat.le_refl _) ?_
          refine DR.p rfl rfl (p_not rfl) ?_
          refine DR.nil 9 [] hst (by kernel_rfl) trivial ?_
          refine AX.cond rfl (fun c194 => ?_) (fun c194 => ?_)
          · have hd195 := bif_t c194 hd192
            refine AX.seq ?_
            refine AX.region ?_
            refine AO.p rfl (p_assign rfl) ?_
            refine AO.nil ?_
            refine AX.ret ?_
            obtain rfl := some_inj hd195
            have z196 : _ = r173 := hk179
            subst z196
            obtain rfl := some_inj hd175
            exact ⟨.inr rfl, _, res1 rfl (rv_tmp rfl), rfl, (flatB_ok rfl), S180.hold⟩
          · have hd197 := bif_f c194 hd192
            refine AX.skip ?_
            refine AX.region ?_
            refine AO.p rfl (p_move rfl) ?_
            obtain ⟨k198, hd199⟩ := chk_some hd197
            refine AO.p rfl (p_addE rfl rfl k198) ?_
            refine AO.p rfl (p_assign rfl) ?_
            refine AO.nil ?_
            obtain rfl := some_inj hd199
            have S201 := S180.front 0 rfl
            exact ⟨x153 + 1, hk179, (x153 + 1), rfl, S201, Sub.cons' rfl rfl (Sub.cons' rfl rfl (Sub.cons' rfl rfl (Sub.nil _)))⟩
        · have hd202 := bif_f c184 ho178
          refine AX.exit ?_
          obtain rfl := some_inj hd202
          have S203 := S180.keep 0
          exact ⟨hk179, S203, Sub.nil _⟩
    · rintro t' G205 ⟨rfl, S204, hsub206⟩
      refine AX.sub hsub206 ?_
      refine AX.seq ?_
      refine AX.region ?_
      refine AO.p rfl (p_assign rfl) ?_
      refine AO.nil ?_
      refine AX.ret ?_
      obtain rfl := some_inj hd175
      exact ⟨.inr rfl, _, res1 rfl (rv_tmp rfl), rfl, (flatB_ok rfl), S204.hold⟩

set_option maxHeartbeats 4000000 in
theorem W_spec_l05Team (fu : Nat) (H : AHeap) (a0_0 : Int) (p_a0_1 : Option Addr) (c_a0_1 : Nat) (a0_1 : List (List Int)) (a_a0_1 : All 14 a0_1) (v_a0_1 : Vw H p_a0_1 a0_1.length c_a0_1 (ints a0_1.flatten)) (p_a1 : Option Addr) (c_a1 : Nat) (T_a1 : Tb) (a1 : List (List Int)) (t_a1 : trows T_a1 = a1) (v_a1 : Vw H p_a1 a1.length c_a1 (tcells T_a1)) (w_a1 : TVw H T_a1) (p_a2 : Option Addr) (c_a2 : Nat) (a2 : List Int) (v_a2 : Vw H p_a2 a2.length c_a2 (ints a2)) (r0 : Int) (hd : D_spec_l05Team fu a0_0 a0_1 a1 a2 = some r0) : ACall Try.prog 96 [.agg [.int .i64 a0_0, .slice p_a0_1 a0_1.length c_a0_1].toArray, .slice p_a1 a1.length c_a1, .slice p_a2 a2.length c_a2] H (.int .i64 r0) H := by
  refine ACall.bodyP (N := 25) [(0, .agg [.int .i64 a0_0, .slice p_a0_1 a0_1.length c_a0_1].toArray), (1, .slice p_a1 a1.length c_a1), (2, .slice p_a2 a2.length c_a2)] Try.func96 rfl rfl rfl rfl ?_
  unfold D_spec_l05Team at hd
  have S0 : St [] H H [] := St.nil H
  refine AX.seq ?_
  refine AX.region ?_
  obtain ⟨G100, i101, hii101, hHG100, S102⟩ := S0.new (AObj.row false ([.int .i64 a0_0, .slice p_a0_1 a0_1.length c_a0_1]))
  refine AO.c rfl (s_box (i := i101) (cs := [.int .i64 a0_0, .slice p_a0_1 a0_1.length c_a0_1]) rfl hii101 rfl hHG100) ?_
  refine AO.p rfl (p_assign rfl) ?_
  refine AO.nil ?_
  refine AX.seq ?_
  refine AX.region ?_
  refine AO.c rfl (s_loadN (vs := [.int .i64 a0_0, .slice p_a0_1 a0_1.length c_a0_1]) Try.isAgg39 Try.sizeOf39 rfl rfl (row_cells (S102.get (k := 0) rfl))) ?_
  refine AO.p rfl (p_move rfl) ?_
  obtain ⟨x104, h105, hd106⟩ := bnd_some hd
  refine AO.c rfl (o_call (vs := [.agg [.int .i64 a0_0, .slice p_a0_1 a0_1.length c_a0_1].toArray, .slice p_a1 a1.length c_a1]) rfl Try.call77 (W_spec_l05Form fu G100 a0_0 p_a0_1 c_a0_1 a0_1 a_a0_1 (S102.view v_a0_1) p_a1 c_a1 T_a1 a1 t_a1 (S102.view v_a1) (S102.tview w_a1) x104 h105)) ?_
  refine AO.p rfl (p_assign rfl) ?_
  refine AO.nil ?_
  refine AX.seq ?_
  refine AX.seq ?_
  refine AX.region ?_
  refine AO.p rfl (p_move rfl) ?_
  refine AO.p rfl (p_eql rfl rfl) ?_
  refine AO.nil ?_
  obtain ⟨r117, hb118, hd119⟩ := bnd_some hd106
  refine AX.cutQ (fun t' H' => ∃ (x116 : Int), x116 = r117 ∧ St [] H H' [[(i101, AObj.row false ([.int .i64 a0_0, .slice p_a0_1 a0_1.length c_a0_1]))]] ∧ Am.Sub [(1, .slice p_a1 a1.length c_a1), (3, .pointer (some ⟨i101, 0, none⟩)), (7, .int .i64 x116)] t') ?_ ?_
  · skip
    refine AX.cond rfl (fun c120 => ?_) (fun c120 => ?_)
    · have hd121 := bif_t c120 hb118
      refine AX.region ?_
      refine AO.c rfl (s_loadN (vs := [.int .i64 a0_0, .slice p_a0_1 a0_1.length c_a0_1]) Try.isAgg39 Try.sizeOf39 rfl rfl (row_cells (S102.get (k := 0) rfl))) ?_
      refine AO.p rfl (p_move rfl) ?_
      obtain ⟨x122, h123, hd124⟩ := bnd_some hd121
      refine AO.c rfl (o_call (vs := [.agg [.int .i64 a0_0, .slice p_a0_1 a0_1.length c_a0_1].toArray, .slice p_a2 a2.length c_a2]) rfl Try.call138 (W_spec_l01Teams fu G100 a0_0 p_a0_1 c_a0_1 a0_1 a_a0_1 (S102.view v_a0_1) p_a2 c_a2 a2 (S102.view v_a2) x122 h123)) ?_
      refine AO.p rfl (p_assign rfl) ?_
      refine AO.nil ?_
      have S126 := S102.front 0 rfl
      exact ⟨x122, (some_inj hd124), S126, Sub.cons' rfl rfl (Sub.cons' rfl rfl (Sub.cons' rfl rfl (Sub.nil _)))⟩
    · have hd127 := bif_f c120 hb118
      refine AX.skip ?_
      have S128 := S102.front 0 rfl
      exact ⟨x104, (some_inj hd127), S128, Sub.cons' rfl rfl (Sub.cons' rfl rfl (Sub.cons' rfl rfl (Sub.nil _)))⟩
  · rintro t' G130 ⟨x116, rfl, S129, hsub131⟩
    refine AX.sub hsub131 ?_
    refine AX.seq ?_
    obtain ⟨r140, hb141, hd142⟩ := bnd_some hd119
    refine AX.cut (fun t' H' => ∃ (b139 : Bool), b139 = r140 ∧ St [] H H' [] ∧ Am.Sub [(7, .int .i64 x116), (23, .bool b139)] t') ?_ ?_
    · skip
      refine AX.region ?_
      refine AO.p rfl (p_move rfl) ?_
      refine AO.p rfl (p_eql rfl rfl) ?_
      refine AO.p rfl (p_move rfl) ?_
      refine AO.cases (d := 18) rfl (fun c143 => ?_) (fun c143 => ?_)
      · have hd144 := bif_t c143 hb141
        refine AO.gc rfl rfl rfl (s_loadN (vs := [.int .i64 a0_0, .slice p_a0_1 a0_1.length c_a0_1]) Try.isAgg39 Try.sizeOf39 rfl rfl (row_cells (S129.get (k := 0) rfl))) ?_
        refine AO.gp rfl rfl rfl (p_move rfl) ?_
        obtain ⟨b145, h146, hd147⟩ := bnd_some hd144
        refine AO.gc rfl rfl rfl (o_call (vs := [.agg [.int .i64 a0_0, .slice p_a0_1 a0_1.length c_a0_1].toArray, .slice p_a1 a1.length c_a1]) rfl Try.call78 (W_spec_l05Are fu G130 a0_0 p_a0_1 c_a0_1 a0_1 a_a0_1 (S129.view v_a0_1) p_a1 c_a1 T_a1 a1 t_a1 (S129.view v_a1) (S129.tview w_a1) b145 h146)) ?_
        refine AO.gp rfl rfl rfl (p_not rfl) ?_
        refine AO.p rfl (p_pickT rfl rfl) ?_
        refine AO.nil ?_
        have S149 := S129.keep 0
        exact ⟨(!b145), (some_inj hd147), S149, Sub.cons' rfl rfl (Sub.cons' rfl rfl (Sub.nil _))⟩
      · have hd150 := bif_f c143 hb141
        refine AO.gn rfl rfl rfl ?_
        refine AO.gn rfl rfl rfl ?_
        refine AO.gn rfl rfl rfl ?_
        refine AO.gn rfl rfl rfl ?_
        refine AO.p rfl (p_pickF rfl rfl) ?_
        refine AO.nil ?_
        have S151 := S129.keep 0
        exact ⟨false, (some_inj hd150), S151, Sub.cons' rfl rfl (Sub.cons' rfl rfl (Sub.nil _))⟩
    · rintro t' G153 ⟨b139, rfl, S152, hsub154⟩
      refine AX.sub hsub154 ?_
      refine AX.cond rfl (fun c155 => ?_) (fun c155 => ?_)
      · have hd156 := bif_t c155 hd142
        refine AX.region ?_
        refine AO.p rfl (p_assign rfl) ?_
        refine AO.nil ?_
        refine AX.seq ?_
        refine AX.region ?_
        refine AO.p rfl (p_move rfl) ?_
        refine AO.p rfl (p_assign rfl) ?_
        refine AO.nil ?_
        refine AX.ret ?_
        obtain rfl := some_inj hd156
        exact ⟨.inr rfl, _, res1 rfl (rv_tmp rfl), rfl, (flatB_ok rfl), S152.hold⟩
      · have hd157 := bif_f c155 hd142
        refine AX.skip ?_
        refine AX.seq ?_
        refine AX.region ?_
        refine AO.p rfl (p_move rfl) ?_
        refine AO.p rfl (p_assign rfl) ?_
        refine AO.nil ?_
        refine AX.ret ?_
        obtain rfl := some_inj hd157
        exact ⟨.inr rfl, _, res1 rfl (rv_tmp rfl), rfl, (flatB_ok rfl), S152.hold⟩

set_option maxHeartbeats 4000000 in
theorem W_spec_AreOpposite (fu : Nat) (H : AHeap) (a0_0 : Int) (p_a0_1 : Option Addr) (c_a0_1 : Nat) (a0_1 : List (List Int)) (a_a0_1 : All 14 a0_1) (v_a0_1 : Vw H p_a0_1 a0_1.length c_a0_1 (ints a0_1.flatten)) (p_a1 : Option Addr) (c_a1 : Nat) (T_a1 : Tb) (a1 : List (List Int)) (t_a1 : trows T_a1 = a1) (v_a1 : Vw H p_a1 a1.length c_a1 (tcells T_a1)) (w_a1 : TVw H T_a1) (a2 : Int) (a3 : Int) (r0 : Bool) (r1 : Int) (hd : D_spec_AreOpposite fu a0_0 a0_1 a1 a2 a3 = some (r0, r1)) : ACall Try.prog 44 [.agg [.int .i64 a0_0, .slice p_a0_1 a0_1.length c_a0_1].toArray, .slice p_a1 a1.length c_a1, .int .i64 a2, .int .i64 a3] H (.tuple #[.bool r0, .int .i64 r1]) H := by
  refine ACall.bodyP (N := 79) [(0, .agg [.int .i64 a0_0, .slice p_a0_1 a0_1.length c_a0_1].toArray), (1, .slice p_a1 a1.length c_a1), (2, .int .i64 a2), (3, .int .i64 a3)] Try.func44 rfl rfl rfl rfl ?_
  unfold D_spec_AreOpposite at hd
  have S0 : St [] H H [] := St.nil H
  refine AX.seq ?_
  refine AX.region ?_
  obtain ⟨G100, i101, hii101, hHG100, S102⟩ := S0.new (AObj.row false ([.int .i64 a0_0, .slice p_a0_1 a0_1.length c_a0_1]))
  refine AO.c rfl (s_box (i := i101) (cs := [.int .i64 a0_0, .slice p_a0_1 a0_1.length c_a0_1]) rfl hii101 rfl hHG100) ?_
  refine AO.p rfl (p_assign rfl) ?_
  refine AO.p rfl (p_assign rfl) ?_
  refine AO.nil ?_
  refine AX.seq ?_
  refine AX.region ?_
  refine AO.c rfl (s_loadN (vs := [.int .i64 a0_0, .slice p_a0_1 a0_1.length c_a0_1]) Try.isAgg39 Try.sizeOf39 rfl rfl (row_cells (S102.get (k := 0) rfl))) ?_
  refine AO.p rfl (p_move rfl) ?_
  obtain ⟨x104, h105, hd106⟩ := bnd_some hd
  refine AO.c rfl (o_call (vs := [.agg [.int .i64 a0_0, .slice p_a0_1 a0_1.length c_a0_1].toArray, .slice p_a1 a1.length c_a1]) rfl Try.call77 (W_spec_l05Form fu G100 a0_0 p_a0_1 c_a0_1 a0_1 a_a0_1 (S102.view v_a0_1) p_a1 c_a1 T_a1 a1 t_a1 (S102.view v_a1) (S102.tview w_a1) x104 h105)) ?_
  refine AO.p rfl (p_assign rfl) ?_
  refine AO.nil ?_
  refine AX.seq ?_
  refine AX.cut (fun t' H' => G100 = H' ∧ Am.Sub [(1, .slice p_a1 a1.length c_a1), (2, .int .i64 a2), (3, .int .i64 a3), (4, .pointer (some ⟨i101, 0, none⟩)), (10, .int .i64 x104), (23, .bool ((decide (x104 = 0)) && (decide (a2 = a3))))] t') ?_ ?_
  · skip
    refine AX.region ?_
    refine AO.p rfl (p_move rfl) ?_
    refine AO.p rfl (p_eql rfl rfl) ?_
    refine AO.p rfl (p_move rfl) ?_
    refine AO.cases (d := 19) rfl (fun c111 => ?_) (fun c111 => ?_)
    · skip
      refine AO.gp rfl rfl rfl (p_move rfl) ?_
      refine AO.gp rfl rfl rfl (p_move rfl) ?_
      refine AO.gp rfl rfl rfl (p_eql rfl rfl) ?_
      refine AO.p rfl (p_pickT rfl rfl) ?_
      refine AO.nil ?_
      exact ⟨rfl, Sub.cons' rfl rfl (Sub.cons' rfl rfl (Sub.cons' rfl rfl (Sub.cons' rfl rfl (Sub.cons' rfl rfl (Sub.cons' rfl (bool_eq (by simp only [c111, Bool.true_and, Bool.false_and, Bool.and_true, Bool.and_false, Bool.true_or, Bool.false_or, Bool.or_true, Bool.or_false, Bool.not_true, Bool.not_false, cond_true, cond_false])) (Sub.nil _))))))⟩
    · skip
      refine AO.gn rfl rfl rfl ?_
      refine AO.gn rfl rfl rfl ?_
      refine AO.gn rfl rfl rfl ?_
      refine AO.p rfl (p_pickF rfl rfl) ?_
      refine AO.nil ?_
      exact ⟨rfl, Sub.cons' rfl rfl (Sub.cons' rfl rfl (Sub.cons' rfl rfl (Sub.cons' rfl rfl (Sub.cons' rfl rfl (Sub.cons' rfl (bool_eq (by simp only [c111, Bool.true_and, Bool.false_and, Bool.and_true, Bool.and_false, Bool.true_or, Bool.false_or, Bool.or_true, Bool.or_false, Bool.not_true, Bool.not_false, cond_true, cond_false])) (Sub.nil _))))))⟩
  · rintro t' _ ⟨rfl, hsub112⟩
    refine AX.sub hsub112 ?_
    obtain ⟨r118, hb119, hd120⟩ := bnd_some hd106
    refine AX.cutQ (fun t' H' => ∃ (x117 : Int), x117 = r118 ∧ St [] H H' [[(i101, AObj.row false ([.int .i64 a0_0, .slice p_a0_1 a0_1.length c_a0_1]))]] ∧ Am.Sub [(1, .slice p_a1 a1.length c_a1), (2, .int .i64 a2), (3, .int .i64 a3), (4, .pointer (some ⟨i101, 0, none⟩)), (10, .int .i64 x117)] t') ?_ ?_
    · skip
      refine AX.cond rfl (fun c121 => ?_) (fun c121 => ?_)
      · have hd122 := bif_t c121 hb119
        refine AX.region ?_
        refine AO.p rfl (p_assign rfl) ?_
        refine AO.nil ?_
        have S123 := S102.front 0 rfl
        exact ⟨2, (some_inj hd122), S123, Sub.cons' rfl rfl (Sub.cons' rfl rfl (Sub.cons' rfl rfl (Sub.cons' rfl rfl (Sub.cons' rfl rfl (Sub.nil _)))))⟩
      · have hd124 := bif_f c121 hb119
        refine AX.skip ?_
        have S125 := S102.front 0 rfl
        exact ⟨x104, (some_inj hd124), S125, Sub.cons' rfl rfl (Sub.cons' rfl rfl (Sub.cons' rfl rfl (Sub.cons' rfl rfl (Sub.cons' rfl rfl (Sub.nil _)))))⟩
    · rintro t' G127 ⟨x117, rfl, S126, hsub128⟩
      refine AX.sub hsub128 ?_
      refine AX.seq ?_
      refine AX.seq ?_
      refine AX.region ?_
      refine AO.p rfl (p_move rfl) ?_
      refine AO.p rfl (p_eql rfl rfl) ?_
      refine AO.nil ?_
      obtain ⟨r141, hb142, hd143⟩ := bnd_some hd120
      refine AX.cutQ (fun t' H' => ∃ (x140 : Int), x140 = r141 ∧ St [] H H' [] ∧ Am.Sub [(1, .slice p_a1 a1.length c_a1), (2, .int .i64 a2), (3, .int .i64 a3), (10, .int .i64 x140)] t') ?_ ?_
      · skip
        refine AX.cond rfl (fun c144 => ?_) (fun c144 => ?_)
        · have hd145 := bif_t c144 hb142
          refine AX.region ?_
          refine AO.c rfl (s_loadN (vs := [.int .i64 a0_0, .slice p_a0_1 a0_1.length c_a0_1]) Try.isAgg39 Try.sizeOf39 rfl rfl (row_cells (S126.get (k := 0) rfl))) ?_
          refine AO.p rfl (p_move rfl) ?_
          refine AO.p rfl (p_move rfl) ?_
          refine AO.p rfl (p_move rfl) ?_
          obtain ⟨G146, i147, hii147, hHG146, S148⟩ := S126.new (AObj.row false (ints [a2, a3]))
          refine AO.c rfl (s_buildInts (i := i147) (vs := [(0, .int .i64 a2), (1, .int .i64 a3)]) (xs := [a2, a3]) Try.underlying68 Try.sizeOf2 Try.zeroValue2 rfl rfl (by decide) rfl rfl hii147 hHG146) ?_
          obtain ⟨x150, h151, hd152⟩ := bnd_some hd145
          refine AO.c rfl (o_call (vs := [.agg [.int .i64 a0_0, .slice p_a0_1 a0_1.length c_a0_1].toArray, .slice p_a1 a1.length c_a1, .slice (some (Addr.mk i147 0 none)) 2 2]) rfl Try.call96 (by have h' := W_spec_l05Team fu G146 a0_0 p_a0_1 c_a0_1 a0_1 a_a0_1 (S148.view v_a0_1) p_a1 c_a1 T_a1 a1 t_a1 (S148.view v_a1) (S148.tview w_a1) (some (Addr.mk i147 0 none)) 2 [a2, a3] (by rw [show List.length [a2, a3] = 2 from rfl]; exact (S148.oview (k := 0) rfl (Sb.lit (n := 2) (by decide)) (ints_len1 rfl))) x150 h151; rw [show List.length [a2, a3] = 2 from rfl] at h'; exact h')) ?_
          refine AO.p rfl (p_assign rfl) ?_
          refine AO.nil ?_
          have S154 := S148.keep 0
          exact ⟨x150, (some_inj hd152), S154, Sub.cons' rfl rfl (Sub.cons' rfl rfl (Sub.cons' rfl rfl (Sub.cons' rfl rfl (Sub.nil _))))⟩
        · have hd155 := bif_f c144 hb142
          refine AX.skip ?_
          have S156 := S126.keep 0
          exact ⟨x117, (some_inj hd155), S156, Sub.cons' rfl rfl (Sub.cons' rfl rfl (Sub.cons' rfl rfl (Sub.cons' rfl rfl (Sub.nil _))))⟩
      · rintro t' G158 ⟨x140, rfl, S157, hsub159⟩
        refine AX.sub hsub159 ?_
        refine AX.seq ?_
        refine AX.seq ?_
        refine AX.region ?_
        refine AO.p rfl (p_move rfl) ?_
        refine AO.p rfl (p_neq rfl rfl) ?_
        refine AO.nil ?_
        refine AX.cond rfl (fun c160 => ?_) (fun c160 => ?_)
        · have hd161 := bif_t c160 hd143
          refine AX.seq ?_
          refine AX.region ?_
          refine AO.p rfl (p_move rfl) ?_
          refine AO.p rfl (p_assign rfl) ?_
          refine AO.p rfl (p_assign rfl) ?_
          refine AO.nil ?_
          refine AX.ret ?_
          obtain ⟨rfl, rfl⟩ := Prod.mk.inj (some_inj hd161)
          exact ⟨.inr rfl, _, res2 rfl (rv_tmp rfl) (rv_tmp rfl), rfl, (flat_t2 (flatB_ok rfl) (flatB_ok rfl)), S157.hold⟩
        · have hd163 := bif_f c160 hd143
          refine AX.skip ?_
          refine AX.seq ?_
          refine AX.seq ?_
          refine AX.region ?_
          refine AO.p rfl (p_assign rfl) ?_
          refine AO.nil ?_
          obtain ⟨r499, hl500, hd501⟩ := bnd_some hd163
          refine AX.cutQ (fun t' H' => .inl () = r499 ∧ St [] H H' [] ∧ Am.Sub [] t') ?_ ?_
          · refine AX.block ?_
            refine AX.loopF (fun s' t' H' => ∃ (x387 : Int), x387 = s' ∧ St [] H H' [] ∧ Am.Sub [(1, .slice p_a1 a1.length c_a1), (2, .int .i64 a2), (3, .int .i64 a3), (11, .int .i64 x387)] t') hl500 ?_ ?_
            · skip
              exact ⟨0, rfl, S157, Sub.cons' rfl rfl (Sub.cons' rfl rfl (Sub.cons' rfl rfl (Sub.cons' rfl rfl (Sub.nil _))))⟩
            · rintro n502 _ t' G506 ⟨x387, rfl, S505, hsub507⟩ o508 ho503 hk504
              refine AX.sub hsub507 ?_
              unfold D_spec_AreOpposite_s0 at ho503
              refine AX.seq ?_
              refine AX.seq ?_
              refine AX.region ?_
              refine AO.p rfl (p_move rfl) ?_
              refine AO.p rfl (p_move rfl) ?_
              refine AO.p rfl (p_len_slice rfl Try.underlying22) ?_
              refine AO.p rfl (p_lss rfl rfl) ?_
              refine AO.nil ?_
              refine AX.cond rfl (fun c509 => ?_) (fun c509 => ?_)
              · have hd510 := bif_t c509 ho503
                refine AX.skip ?_
                refine AX.seq ?_
                refine AX.block ?_
                refine AX.seq ?_
                refine DR.startS [false, false, false, false, false, false, false, false, false, false, false, false, false, false, false, false] mix (by kernel_rfl) (fun hst => ?_)
                refine DR.p rfl rfl (p_move rfl) ?_
                refine DR.p rfl rfl (p_move rfl) ?_
                obtain ⟨k511, hd512⟩ := chk_some hd510
                obtain ⟨p513, c514, e515, f516⟩ := tget t_a1 (lt_len rfl (inR_lt k511))
                refine DR.p rfl rfl (s_indexV (q := off p_a1 + x387.toNat) Try.underlying22 Try.sizeOf68 rfl ((S505.view v_a1).p f516) rfl k511 (o1 _ _)) ?_
                refine DR.r rfl rfl (r_load rfl Try.isAgg68) (one_read ((S505.view v_a1).get _ _ f516) (TVw.at (S505.tview w_a1) e515).inn.bel) ?_
                refine DR.p rfl rfl (p_move rfl) ?_
                obtain ⟨k517, hd518⟩ := chk_some hd512
                refine DR.p rfl rfl (s_indexV (q := off p513 + a2.toNat) Try.underlying68 Try.sizeOf2 rfl ((TVw.at (S505.tview w_a1) e515).p (ints_get (lt_len rfl (inR_lt k517)))) rfl k517 (o1 _ _)) ?_
                refine DR.r rfl rfl (r_load rfl Try.isAgg2) (one_read ((TVw.at (S505.tview w_a1) e515).get _ _ (ints_get (lt_len rfl (inR_lt k517)))) (.of_flat0 rfl)) ?_
                refine DR.p rfl rfl (p_move rfl) ?_
                refine DR.p rfl rfl (p_move rfl) ?_
                obtain ⟨k519, hd520⟩ := chk_some hd518
                obtain ⟨p521, c522, e523, f524⟩ := tget t_a1 (lt_len rfl (inR_lt k519))
                refine DR.p rfl rfl (s_indexV (q := off p_a1 + x387.toNat) Try.underlying22 Try.sizeOf68 rfl ((S505.view v_a1).p f524) rfl k519 (o1 _ _)) ?_
                refine DR.r rfl rfl (r_load rfl Try.isAgg68) (one_read ((S505.view v_a1).get _ _ f524) (TVw.at (S505.tview w_a1) e523).inn.bel) ?_
                refine DR.p rfl rfl (p_move rfl) ?_
                obtain ⟨k525, hd526⟩ := chk_some hd520
                refine DR.p rfl rfl (s_indexV (q := off p521 + a3.toNat) Try.underlying68 Try.sizeOf2 rfl ((TVw.at (S505.tview w_a1) e523).p (ints_get (lt_len rfl (inR_lt k525)))) rfl k525 (o1 _ _)) ?_
                refine DR.r rfl rfl (r_load rfl Try.isAgg2) (one_read ((TVw.at (S505.tview w_a1) e523).get _ _ (ints_get (lt_len rfl (inR_lt k525)))) (.of_flat0 rfl)) ?_
                refine DR.p rfl rfl (p_assign rfl) ?_
                refine DR.p rfl rfl (p_assign rfl) ?_
                refine DR.nil 16 [] hst (by kernel_rfl) trivial ?_
                obtain ⟨r566, hb567, hd568⟩ := bnd_some hd526
                refine AX.cut (fun t' H' => ∃ (b565 : Bool), b565 = r566 ∧ St [] H H' [] ∧ Am.Sub [(1, .slice p_a1 a1.length c_a1), (2, .int .i64 a2), (3, .int .i64 a3), (11, .int .i64 x387), (78, .bool b565)] t') ?_ ?_
                · skip
                  refine AX.region ?_
                  refine AO.p rfl (p_move rfl) ?_
                  refine AO.p rfl (p_lss rfl rfl) ?_
                  refine AO.p rfl (p_move rfl) ?_
                  refine AO.cases (d := 57) rfl (fun c569 => ?_) (fun c569 => ?_)
                  · have hd570 := bif_t c569 hb567
                    refine AO.gp rfl rfl rfl (p_move rfl) ?_
                    refine AO.gp rfl rfl rfl (p_geq rfl rfl) ?_
                    refine AO.p rfl (p_pickT rfl rfl) ?_
                    refine AO.p rfl (p_move rfl) ?_
                    refine AO.cases (d := 61) rfl (fun c571 => ?_) (fun c571 => ?_)
                    · have hd572 := bif_t c571 hd570
                      refine AO.gn rfl rfl rfl ?_
                      refine AO.gn rfl rfl rfl ?_
                      refine AO.gn rfl rfl rfl ?_
                      refine AO.gu rfl rfl rfl ?_
                      refine AO.gu rfl rfl rfl ?_
                      refine AO.gn rfl rfl rfl ?_
                      refine AO.p rfl (p_pickT rfl rfl) ?_
                      refine AO.p rfl (p_move rfl) ?_
                      refine AO.gn rfl rfl rfl ?_
                      refine AO.gn rfl rfl rfl ?_
                      refine AO.gn rfl rfl rfl ?_
                      refine AO.gu rfl rfl rfl ?_
                      refine AO.gu rfl rfl rfl ?_
                      refine AO.gu rfl rfl rfl ?_
                      refine AO.gu rfl rfl rfl ?_
                      refine AO.gn rfl rfl rfl ?_
                      refine AO.p rfl (p_pickT rfl rfl) ?_
                      refine AO.nil ?_
                      exact ⟨true, (some_inj hd572), S505, Sub.cons' rfl rfl (Sub.cons' rfl rfl (Sub.cons' rfl rfl (Sub.cons' rfl rfl (Sub.cons' rfl rfl (Sub.nil _)))))⟩
                    · have hd573 := bif_f c571 hd570
                      refine AO.gp rfl rfl rfl (p_move rfl) ?_
                      refine AO.gp rfl rfl rfl (p_lss rfl rfl) ?_
                      refine AO.gp rfl rfl rfl (p_move rfl) ?_
                      refine AO.cases (d := 64) rfl (fun c574 => ?_) (fun c574 => ?_)
                      · have hd575 := bif_t c574 hd573
                        refine AO.gp rfl rfl rfl (p_move rfl) ?_
                        refine AO.gp rfl rfl rfl (p_geq rfl rfl) ?_
                        refine AO.gp rfl rfl rfl (p_pickT rfl rfl) ?_
                        refine AO.p rfl (p_pickF rfl rfl) ?_
                        refine AO.p rfl (p_move rfl) ?_
                        refine AO.cases (d := 69) rfl (fun c576 => ?_) (fun c576 => ?_)
                        · have hd577 := bif_t c576 hd575
                          refine AO.gn rfl rfl rfl ?_
                          refine AO.gn rfl rfl rfl ?_
                          refine AO.gn rfl rfl rfl ?_
                          refine AO.gu rfl rfl rfl ?_
                          refine AO.gu rfl rfl rfl ?_
                          refine AO.gu rfl rfl rfl ?_
                          refine AO.gu rfl rfl rfl ?_
                          refine AO.gn rfl rfl rfl ?_
                          refine AO.p rfl (p_pickT rfl rfl) ?_
                          refine AO.nil ?_
                          exact ⟨true, (some_inj hd577), S505, Sub.cons' rfl rfl (Sub.cons' rfl rfl (Sub.cons' rfl rfl (Sub.cons' rfl rfl (Sub.cons' rfl rfl (Sub.nil _)))))⟩
                        · have hd578 := bif_f c576 hd575
                          refine AO.gp rfl rfl rfl (p_move rfl) ?_
                          refine AO.gp rfl rfl rfl (p_geq rfl rfl) ?_
                          refine AO.gp rfl rfl rfl (p_move rfl) ?_
                          refine AO.cases (d := 72) rfl (fun c579 => ?_) (fun c579 => ?_)
                          · have hd580 := bif_t c579 hd578
                            refine AO.gp rfl rfl rfl (p_move rfl) ?_
                            refine AO.gp rfl rfl rfl (p_move rfl) ?_
                            obtain ⟨k581, hd582⟩ := chk_some hd580
                            refine AO.gp rfl rfl rfl (p_addE rfl rfl k581) ?_
                            refine AO.gp rfl rfl rfl (p_neq rfl rfl) ?_
                            refine AO.gp rfl rfl rfl (p_pickT rfl rfl) ?_
                            refine AO.p rfl (p_pickF rfl rfl) ?_
                            refine AO.nil ?_
                            exact ⟨(!decide (rd (rw_ a1 x387.toNat) a2.toNat + (rd (rw_ a1 x387.toNat) a3.toNat) = 1)), (some_inj hd582), S505, Sub.cons' rfl rfl (Sub.cons' rfl rfl (Sub.cons' rfl rfl (Sub.cons' rfl rfl (Sub.cons' rfl rfl (Sub.nil _)))))⟩
                          · have hd583 := bif_f c579 hd578
                            refine AO.gn rfl rfl rfl ?_
                            refine AO.gn rfl rfl rfl ?_
                            refine AO.gn rfl rfl rfl ?_
                            refine AO.gn rfl rfl rfl ?_
                            refine AO.gp rfl rfl rfl (p_pickF rfl rfl) ?_
                            refine AO.p rfl (p_pickF rfl rfl) ?_
                            refine AO.nil ?_
                            exact ⟨false, (some_inj hd583), S505, Sub.cons' rfl rfl (Sub.cons' rfl rfl (Sub.cons' rfl rfl (Sub.cons' rfl rfl (Sub.cons' rfl rfl (Sub.nil _)))))⟩
                      · have hd584 := bif_f c574 hd573
                        refine AO.gn rfl rfl rfl ?_
                        refine AO.gn rfl rfl rfl ?_
                        refine AO.gp rfl rfl rfl (p_pickF rfl rfl) ?_
                        refine AO.p rfl (p_pickF rfl rfl) ?_
                        refine AO.p rfl (p_move rfl) ?_
                        refine AO.gp rfl rfl rfl (p_move rfl) ?_
                        refine AO.gp rfl rfl rfl (p_geq rfl rfl) ?_
                        refine AO.gp rfl rfl rfl (p_move rfl) ?_
                        refine AO.cases (d := 72) rfl (fun c585 => ?_) (fun c585 => ?_)
                        · have hd586 := bif_t c585 hd584
                          refine AO.gp rfl rfl rfl (p_move rfl) ?_
                          refine AO.gp rfl rfl rfl (p_move rfl) ?_
                          obtain ⟨k587, hd588⟩ := chk_some hd586
                          refine AO.gp rfl rfl rfl (p_addE rfl rfl k587) ?_
                          refine AO.gp rfl rfl rfl (p_neq rfl rfl) ?_
                          refine AO.gp rfl rfl rfl (p_pickT rfl rfl) ?_
                          refine AO.p rfl (p_pickF rfl rfl) ?_
                          refine AO.nil ?_
                          exact ⟨(!decide (rd (rw_ a1 x387.toNat) a2.toNat + (rd (rw_ a1 x387.toNat) a3.toNat) = 1)), (some_inj hd588), S505, Sub.cons' rfl rfl (Sub.cons' rfl rfl (Sub.cons' rfl rfl (Sub.cons' rfl rfl (Sub.cons' rfl rfl (Sub.nil _)))))⟩
                        · have hd589 := bif_f c585 hd584
                          refine AO.gn rfl rfl rfl ?_
                          refine AO.gn rfl rfl rfl ?_
                          refine AO.gn rfl rfl rfl ?_
                          refine AO.gn rfl rfl rfl ?_
                          refine AO.gp rfl rfl rfl (p_pickF rfl rfl) ?_
                          refine AO.p rfl (p_pickF rfl rfl) ?_
                          refine AO.nil ?_
                          exact ⟨false, (some_inj hd589), S505, Sub.cons' rfl rfl (Sub.cons' rfl rfl (Sub.cons' rfl rfl (Sub.cons' rfl rfl (Sub.cons' rfl rfl (Sub.nil _)))))⟩
                  · have hd590 := bif_f c569 hb567
                    refine AO.gn rfl rfl rfl ?_
                    refine AO.gn rfl rfl rfl ?_
                    refine AO.p rfl (p_pickF rfl rfl) ?_
                    refine AO.p rfl (p_move rfl) ?_
                    refine AO.gp rfl rfl rfl (p_move rfl) ?_
                    refine AO.gp rfl rfl rfl (p_lss rfl rfl) ?_
                    refine AO.gp rfl rfl rfl (p_move rfl) ?_
                    refine AO.cases (d := 64) rfl (fun c591 => ?_) (fun c591 => ?_)
                    · have hd592 := bif_t c591 hd590
                      refine AO.gp rfl rfl rfl (p_move rfl) ?_
                      refine AO.gp rfl rfl rfl (p_geq rfl rfl) ?_
                      refine AO.gp rfl rfl rfl (p_pickT rfl rfl) ?_
                      refine AO.p rfl (p_pickF rfl rfl) ?_
                      refine AO.p rfl (p_move rfl) ?_
                      refine AO.cases (d := 69) rfl (fun c593 => ?_) (fun c593 => ?_)
                      · have hd594 := bif_t c593 hd592
                        refine AO.gn rfl rfl rfl ?_
                        refine AO.gn rfl rfl rfl ?_
                        refine AO.gn rfl rfl rfl ?_
                        refine AO.gu rfl rfl rfl ?_
                        refine AO.gu rfl rfl rfl ?_
                        refine AO.gu rfl rfl rfl ?_
                        refine AO.gu rfl rfl rfl ?_
                        refine AO.gn rfl rfl rfl ?_
                        refine AO.p rfl (p_pickT rfl rfl) ?_
                        refine AO.nil ?_
                        exact ⟨true, (some_inj hd594), S505, Sub.cons' rfl rfl (Sub.cons' rfl rfl (Sub.cons' rfl rfl (Sub.cons' rfl rfl (Sub.cons' rfl rfl (Sub.nil _)))))⟩
                      · have hd595 := bif_f c593 hd592
                        refine AO.gp rfl rfl rfl (p_move rfl) ?_
                        refine AO.gp rfl rfl rfl (p_geq rfl rfl) ?_
                        refine AO.gp rfl rfl rfl (p_move rfl) ?_
                        refine AO.cases (d := 72) rfl (fun c596 => ?_) (fun c596 => ?_)
                        · have hd597 := bif_t c596 hd595
                          refine AO.gp rfl rfl rfl (p_move rfl) ?_
                          refine AO.gp rfl rfl rfl (p_move rfl) ?_
                          obtain ⟨k598, hd599⟩ := chk_some hd597
                          refine AO.gp rfl rfl rfl (p_addE rfl rfl k598) ?_
                          refine AO.gp rfl rfl rfl (p_neq rfl rfl) ?_
                          refine AO.gp rfl rfl rfl (p_pickT rfl rfl) ?_
                          refine AO.p rfl (p_pickF rfl rfl) ?_
                          refine AO.nil ?_
                          exact ⟨(!decide (rd (rw_ a1 x387.toNat) a2.toNat + (rd (rw_ a1 x387.toNat) a3.toNat) = 1)), (some_inj hd599), S505, Sub.cons' rfl rfl (Sub.cons' rfl rfl (Sub.cons' rfl rfl (Sub.cons' rfl rfl (Sub.cons' rfl rfl (Sub.nil _)))))⟩
                        · have hd600 := bif_f c596 hd595
                          refine AO.gn rfl rfl rfl ?_
                          refine AO.gn rfl rfl rfl ?_
                          refine AO.gn rfl rfl rfl ?_
                          refine AO.gn rfl rfl rfl ?_
                          refine AO.gp rfl rfl rfl (p_pickF rfl rfl) ?_
                          refine AO.p rfl (p_pickF rfl rfl) ?_
                          refine AO.nil ?_
                          exact ⟨false, (some_inj hd600), S505, Sub.cons' rfl rfl (Sub.cons' rfl rfl (Sub.cons' rfl rfl (Sub.cons' rfl rfl (Sub.cons' rfl rfl (Sub.nil _)))))⟩
                    · have hd601 := bif_f c591 hd590
                      refine AO.gn rfl rfl rfl ?_
                      refine AO.gn rfl rfl rfl ?_
                      refine AO.gp rfl rfl rfl (p_pickF rfl rfl) ?_
                      refine AO.p rfl (p_pickF rfl rfl) ?_
                      refine AO.p rfl (p_move rfl) ?_
                      refine AO.gp rfl rfl rfl (p_move rfl) ?_
                      refine AO.gp rfl rfl rfl (p_geq rfl rfl) ?_
                      refine AO.gp rfl rfl rfl (p_move rfl) ?_
                      refine AO.cases (d := 72) rfl (fun c602 => ?_) (fun c602 => ?_)
                      · have hd603 := bif_t c602 hd601
                        refine AO.gp rfl rfl rfl (p_move rfl) ?_
                        refine AO.gp rfl rfl rfl (p_move rfl) ?_
                        obtain ⟨k604, hd605⟩ := chk_some hd603
                        refine AO.gp rfl rfl rfl (p_addE rfl rfl k604) ?_
                        refine AO.gp rfl rfl rfl (p_neq rfl rfl) ?_
                        refine AO.gp rfl rfl rfl (p_pickT rfl rfl) ?_
                        refine AO.p rfl (p_pickF rfl rfl) ?_
                        refine AO.nil ?_
                        exact ⟨(!decide (rd (rw_ a1 x387.toNat) a2.toNat + (rd (rw_ a1 x387.toNat) a3.toNat) = 1)), (some_inj hd605), S505, Sub.cons' rfl rfl (Sub.cons' rfl rfl (Sub.cons' rfl rfl (Sub.cons' rfl rfl (Sub.cons' rfl rfl (Sub.nil _)))))⟩
                      · have hd606 := bif_f c602 hd601
                        refine AO.gn rfl rfl rfl ?_
                        refine AO.gn rfl rfl rfl ?_
                        refine AO.gn rfl rfl rfl ?_
                        refine AO.gn rfl rfl rfl ?_
                        refine AO.gp rfl rfl rfl (p_pickF rfl rfl) ?_
                        refine AO.p rfl (p_pickF rfl rfl) ?_
                        refine AO.nil ?_
                        exact ⟨false, (some_inj hd606), S505, Sub.cons' rfl rfl (Sub.cons' rfl rfl (Sub.cons' rfl rfl (Sub.cons' rfl rfl (Sub.cons' rfl rfl (Sub.nil _)))))⟩
                · rintro t' G608 ⟨b565, rfl, S607, hsub609⟩
                  refine AX.sub hsub609 ?_
                  refine AX.cond rfl (fun c610 => ?_) (fun c610 => ?_)
                  · have hd611 := bif_t c610 hd568
                    refine AX.seq ?_
                    refine AX.region ?_
                    refine AO.p rfl (p_assign rfl) ?_
                    refine AO.p rfl (p_assign rfl) ?_
                    refine AO.nil ?_
                    refine AX.ret ?_
                    obtain rfl := some_inj hd611
                    have z612 : _ = r499 := hk504
                    subst z612
                    obtain ⟨rfl, rfl⟩ := Prod.mk.inj (some_inj hd501)
                    exact ⟨.inr rfl, _, res2 rfl (rv_tmp rfl) (rv_tmp rfl), rfl, (flat_t2 (flatB_ok rfl) (flatB_ok rfl)), S607.hold⟩
                  · have hd614 := bif_f c610 hd568
                    refine AX.skip ?_
                    refine AX.region ?_
                    refine AO.p rfl (p_move rfl) ?_
                    obtain ⟨k615, hd616⟩ := chk_some hd614
                    refine AO.p rfl (p_addE rfl rfl k615) ?_
                    refine AO.p rfl (p_assign rfl) ?_
                    refine AO.nil ?_
                    obtain rfl := some_inj hd616
                    exact ⟨x387 + 1, hk504, (x387 + 1), rfl, S607, Sub.cons' rfl rfl (Sub.cons' rfl rfl (Sub.cons' rfl rfl (Sub.cons' rfl rfl (Sub.nil _))))⟩
              · have hd618 := bif_f c509 ho503
                refine AX.exit ?_
                obtain rfl := some_inj hd618
                exact ⟨hk504, S505, Sub.nil _⟩
          · rintro t' G620 ⟨rfl, S619, hsub621⟩
            refine AX.sub hsub621 ?_
            refine AX.seq ?_
            refine AX.region ?_
            refine AO.p rfl (p_assign rfl) ?_
            refine AO.p rfl (p_assign rfl) ?_
            refine AO.nil ?_
            refine AX.ret ?_
            obtain ⟨rfl, rfl⟩ := Prod.mk.inj (some_inj hd501)
            exact ⟨.inr rfl, _, res2 rfl (rv_tmp rfl) (rv_tmp rfl), rfl, (flat_t2 (flatB_ok rfl) (flatB_ok rfl)), S619.hold⟩

set_option maxHeartbeats 4000000 in
theorem W_impl_venuesCode_1 (fu : Nat) (H : AHeap) (i_b0 : Nat) (ro_b0 : Bool) (b0_0 : Int) (p_b0_1 : Option Addr) (c_b0_1 : Nat) (b0_1 : List (List Int)) (a_b0_1 : All 14 b0_1) (v_b0_1 : Vw H p_b0_1 b0_1.length c_b0_1 (ints b0_1.flatten)) (o_b0 : hget H i_b0 = .row ro_b0 ([.int .i64 b0_0, .slice p_b0_1 b0_1.length c_b0_1])) (i_b1 : Nat) (ro_b1 : Bool) (p_b1_0 : Option Addr) (c_b1_0 : Nat) (T_b1_0 : Tb) (b1_0 : List (List Int)) (t_b1_0 : trows T_b1_0 = b1_0) (v_b1_0 : Vw H p_b1_0 b1_0.length c_b1_0 (tcells T_b1_0)) (w_b1_0 : TVw H T_b1_0) (o_b1 : hget H i_b1 = .row ro_b1 ([.slice p_b1_0 b1_0.length c_b1_0])) (i_b2 : Nat) (ro_b2 : Bool) (f_b2_0 : FuncId) (fs_b2_0 cs_b2_0 : Array Value) (b2_0 : Unit → Option Bool) (hc_b2_0 : ∀ args w, (callFunc f_b2_0 args).run Try.prog w = .ok (.enter f_b2_0 args) w) (hq_b2_0 : ∀ H', ExtG H H' → ∀ (b : Bool), b2_0 () = some b → ACall Try.prog f_b2_0 (fs_b2_0.toList ++ [] ++ cs_b2_0.toList) H' (.bool b) H') (o_b2 : hget H i_b2 = .row ro_b2 ([.func (.func f_b2_0) fs_b2_0 cs_b2_0])) (r0 : Bool) (hd : D_impl_venuesCode_1 fu b0_0 b0_1 b1_0 b2_0 = some r0) : ACall Try.prog 139 [.pointer (some ⟨i_b0, 0, none⟩), .pointer (some ⟨i_b1, 0, none⟩), .pointer (some ⟨i_b2, 0, none⟩)] H (.bool r0) H := by
  refine ACall.bodyP (N := 11) [(0, .pointer (some ⟨i_b0, 0, none⟩)), (1, .pointer (some ⟨i_b1, 0, none⟩)), (2, .pointer (some ⟨i_b2, 0, none⟩))] Try.func139 rfl rfl rfl rfl ?_
  unfold D_impl_venuesCode_1 at hd
  have S0 : St [] H H [] := St.nil H
  refine AX.seq ?_
  refine AX.region ?_
  refine AO.p rfl (p_assign rfl) ?_
  refine AO.nil ?_
  obtain ⟨r111, hb112, hd113⟩ := bnd_some hd
  refine AX.cut (fun t' H' => ∃ (b110 : Bool), b110 = r111 ∧ St [] H H' [] ∧ Am.Sub [(3, .bool b110)] t') ?_ ?_
  · skip
    refine AX.region ?_
    refine AO.c rfl (s_loadN (vs := [.int .i64 b0_0, .slice p_b0_1 b0_1.length c_b0_1]) Try.isAgg39 Try.sizeOf39 rfl rfl (row_cells (S0.old o_b0 (by simp)))) ?_
    refine AO.c rfl (s_load Try.isAgg22 rfl (row_cell (S0.old o_b1 (by simp)) rfl)) ?_
    obtain ⟨b114, h115, hd116⟩ := bnd_some hb112
    refine AO.c rfl (o_call (vs := [.agg [.int .i64 b0_0, .slice p_b0_1 b0_1.length c_b0_1].toArray, .slice p_b1_0 b1_0.length c_b1_0]) rfl Try.call81 (W_impl_Schedule_haveForm fu H b0_0 p_b0_1 c_b0_1 b0_1 a_b0_1 (S0.view v_b0_1) p_b1_0 c_b1_0 T_b1_0 b1_0 t_b1_0 (S0.view v_b1_0) (S0.tview w_b1_0) b114 h115)) ?_
    refine AO.p rfl (p_move rfl) ?_
    refine AO.cases (d := 7) rfl (fun c118 => ?_) (fun c118 => ?_)
    · have hd119 := bif_t c118 hd116
      refine AO.gc rfl rfl rfl (s_load Try.isAgg86 rfl (row_cell (S0.old o_b2 (by simp)) rfl)) ?_
      obtain ⟨b120, h121, hd122⟩ := bnd_some hd119
      refine AO.gc rfl rfl rfl (o_callV (vs := []) rfl rfl hc_b2_0 (hq_b2_0 H S0.ext  b120 h121)) ?_
      refine AO.p rfl (p_pickT rfl rfl) ?_
      refine AO.p rfl (p_assign rfl) ?_
      refine AO.nil ?_
      exact ⟨b120, (some_inj hd122), S0, Sub.cons' rfl rfl (Sub.nil _)⟩
    · have hd123 := bif_f c118 hd116
      refine AO.gn rfl rfl rfl ?_
      refine AO.gn rfl rfl rfl ?_
      refine AO.p rfl (p_pickF rfl rfl) ?_
      refine AO.p rfl (p_assign rfl) ?_
      refine AO.nil ?_
      exact ⟨false, (some_inj hd123), S0, Sub.cons' rfl rfl (Sub.nil _)⟩
  · rintro t' G125 ⟨b110, rfl, S124, hsub126⟩
    refine AX.sub hsub126 ?_
    refine AX.ret ?_
    obtain rfl := some_inj hd113
    exact ⟨.inr rfl, _, res1 rfl (rv_tmp rfl), rfl, (flatB_ok rfl), S124.hold⟩

set_option maxHeartbeats 4000000 in
theorem W_impl_venuesCode (fu : Nat) (H : AHeap) (a0_0 : Int) (p_a0_1 : Option Addr) (c_a0_1 : Nat) (a0_1 : List (List Int)) (a_a0_1 : All 14 a0_1) (v_a0_1 : Vw H p_a0_1 a0_1.length c_a0_1 (ints a0_1.flatten)) (p_a1 : Option Addr) (c_a1 : Nat) (T_a1 : Tb) (a1 : List (List Int)) (t_a1 : trows T_a1 = a1) (v_a1 : Vw H p_a1 a1.length c_a1 (tcells T_a1)) (w_a1 : TVw H T_a1) (f_a2 : FuncId) (fs_a2 cs_a2 : Array Value) (a2 : Unit → Option Bool) (hc_a2 : ∀ args w, (callFunc f_a2 args).run Try.prog w = .ok (.enter f_a2 args) w) (hq_a2 : ∀ H', ExtG H H' → ∀ (b : Bool), a2 () = some b → ACall Try.prog f_a2 (fs_a2.toList ++ [] ++ cs_a2.toList) H' (.bool b) H') (r0 : Int) (hd : D_impl_venuesCode fu a0_0 a0_1 a1 a2 = some r0) : ACall Try.prog 97 [.agg [.int .i64 a0_0, .slice p_a0_1 a0_1.length c_a0_1].toArray, .slice p_a1 a1.length c_a1, .func (.func f_a2) fs_a2 cs_a2] H (.int .i64 r0) H := by
  refine ACall.bodyP (N := 20) [(0, .agg [.int .i64 a0_0, .slice p_a0_1 a0_1.length c_a0_1].toArray), (1, .slice p_a1 a1.length c_a1), (2, .func (.func f_a2) fs_a2 cs_a2)] Try.func97 rfl rfl rfl rfl ?_
  unfold D_impl_venuesCode at hd
  have S0 : St [] H H [] := St.nil H
  refine AX.seq ?_
  refine AX.region ?_
  obtain ⟨G100, i101, hii101, hHG100, S102⟩ := S0.new (AObj.row false ([.int .i64 a0_0, .slice p_a0_1 a0_1.length c_a0_1]))
  refine AO.c rfl (s_box (i := i101) (cs := [.int .i64 a0_0, .slice p_a0_1 a0_1.length c_a0_1]) rfl hii101 rfl hHG100) ?_
  obtain ⟨G104, i105, hii105, hHG104, S106⟩ := S102.new (AObj.row false ([.slice p_a1 a1.length c_a1]))
  refine AO.c rfl (s_box (i := i105) (cs := [.slice p_a1 a1.length c_a1]) rfl hii105 rfl hHG104) ?_
  obtain ⟨G108, i109, hii109, hHG108, S110⟩ := S106.new (AObj.row false ([.func (.func f_a2) fs_a2 cs_a2]))
  refine AO.c rfl (s_box (i := i109) (cs := [.func (.func f_a2) fs_a2 cs_a2]) rfl hii109 rfl hHG108) ?_
  refine AO.p rfl (p_assign rfl) ?_
  refine AO.nil ?_
  refine AX.seq ?_
  refine AX.region ?_
  refine AO.c rfl (s_loadN (vs := [.int .i64 a0_0, .slice p_a0_1 a0_1.length c_a0_1]) Try.isAgg39 Try.sizeOf39 rfl rfl (row_cells (S110.get (k := 2) rfl))) ?_
  refine AO.p rfl (p_makeFunc (fs := []) (cs := [.pointer (some ⟨i101, 0, none⟩), .pointer (some ⟨i105, 0, none⟩), .pointer (some ⟨i109, 0, none⟩)]) rfl rfl) ?_
  obtain ⟨x112, h113, hd114⟩ := bnd_some hd
  refine AO.c rfl (o_call (vs := [.agg [.int .i64 a0_0, .slice p_a0_1 a0_1.length c_a0_1].toArray, .func (.func 139) #[] #[.pointer (some ⟨i101, 0, none⟩), .pointer (some ⟨i105, 0, none⟩), .pointer (some ⟨i109, 0, none⟩)]]) rfl Try.call73 (W_impl_scheduleCode fu G108 a0_0 p_a0_1 c_a0_1 a0_1 a_a0_1 (S110.view v_a0_1) 139 #[] #[.pointer (some ⟨i101, 0, none⟩), .pointer (some ⟨i105, 0, none⟩), .pointer (some ⟨i109, 0, none⟩)] (fun _ => D_impl_venuesCode_1 fu a0_0 a0_1 a1 a2) Try.call139 (fun G' hG  b' hb' => W_impl_venuesCode_1 fu G' i101 false a0_0 p_a0_1 c_a0_1 a0_1 a_a0_1 (hG.view (S110.view v_a0_1)) (hG.get (S110.get (k := 2) rfl)) i105 false p_a1 c_a1 T_a1 a1 t_a1 (hG.view (S110.view v_a1)) (hG.tview (S110.tview w_a1)) (hG.get (S110.get (k := 1) rfl)) i109 false f_a2 fs_a2 cs_a2 a2 hc_a2 (fun G2 hG2 => hq_a2 G2 ((S110.ext.trans hG).trans hG2)) (hG.get (S110.get (k := 0) rfl)) b' hb') x112 h113)) ?_
  refine AO.p rfl (p_assign rfl) ?_
  refine AO.nil ?_
  refine AX.seq ?_
  obtain ⟨r124, hb125, hd126⟩ := bnd_some hd114
  refine AX.cut (fun t' H' => ∃ (b123 : Bool), b123 = r124 ∧ St [] H H' [] ∧ Am.Sub [(7, .int .i64 x112), (18, .bool b123)] t') ?_ ?_
  · skip
    refine AX.region ?_
    refine AO.p rfl (p_move rfl) ?_
    refine AO.p rfl (p_eql rfl rfl) ?_
    refine AO.p rfl (p_move rfl) ?_
    refine AO.cases (d := 13) rfl (fun c127 => ?_) (fun c127 => ?_)
    · have hd128 := bif_t c127 hb125
      refine AO.gc rfl rfl rfl (s_loadN (vs := [.int .i64 a0_0, .slice p_a0_1 a0_1.length c_a0_1]) Try.isAgg39 Try.sizeOf39 rfl rfl (row_cells (S110.get (k := 2) rfl))) ?_
      refine AO.gc rfl rfl rfl (s_load Try.isAgg22 rfl (row_cell (S110.get (k := 1) rfl) rfl)) ?_
      obtain ⟨b129, h130, hd131⟩ := bnd_some hd128
      refine AO.gc rfl rfl rfl (o_call (vs := [.agg [.int .i64 a0_0, .slice p_a0_1 a0_1.length c_a0_1].toArray, .slice p_a1 a1.length c_a1]) rfl Try.call82 (W_impl_Schedule_areVenues fu G108 a0_0 p_a0_1 c_a0_1 a0_1 a_a0_1 (S110.view v_a0_1) p_a1 c_a1 T_a1 a1 t_a1 (S110.view v_a1) (S110.tview w_a1) b129 h130)) ?_
      refine AO.gp rfl rfl rfl (p_not rfl) ?_
      refine AO.p rfl (p_pickT rfl rfl) ?_
      refine AO.nil ?_
      have S133 := S110.keep 0
      exact ⟨(!b129), (some_inj hd131), S133, Sub.cons' rfl rfl (Sub.cons' rfl rfl (Sub.nil _))⟩
    · have hd134 := bif_f c127 hb125
      refine AO.gn rfl rfl rfl ?_
      refine AO.gn rfl rfl rfl ?_
      refine AO.gn rfl rfl rfl ?_
      refine AO.gn rfl rfl rfl ?_
      refine AO.p rfl (p_pickF rfl rfl) ?_
      refine AO.nil ?_
      have S135 := S110.keep 0
      exact ⟨false, (some_inj hd134), S135, Sub.cons' rfl rfl (Sub.cons' rfl rfl (Sub.nil _))⟩
  · rintro t' G137 ⟨b123, rfl, S136, hsub138⟩
    refine AX.sub hsub138 ?_
    refine AX.cond rfl (fun c139 => ?_) (fun c139 => ?_)
    · have hd140 := bif_t c139 hd126
      refine AX.region ?_
      refine AO.p rfl (p_assign rfl) ?_
      refine AO.nil ?_
      refine AX.seq ?_
      refine AX.region ?_
      refine AO.p rfl (p_move rfl) ?_
      refine AO.p rfl (p_assign rfl) ?_
      refine AO.nil ?_
      refine AX.ret ?_
      obtain rfl := some_inj hd140
      exact ⟨.inr rfl, _, res1 rfl (rv_tmp rfl), rfl, (flatB_ok rfl), S136.hold⟩
    · have hd141 := bif_f c139 hd126
      refine AX.skip ?_
      refine AX.seq ?_
      refine AX.region ?_
      refine AO.p rfl (p_move rfl) ?_
      refine AO.p rfl (p_assign rfl) ?_
      refine AO.nil ?_
      refine AX.ret ?_
      obtain rfl := some_inj hd141
      exact ⟨.inr rfl, _, res1 rfl (rv_tmp rfl), rfl, (flatB_ok rfl), S136.hold⟩

set_option maxHeartbeats 4000000 in
theorem W_impl_Schedule_hasTeam (fu : Nat) (H : AHeap) (a0_0 : Int) (p_a0_1 : Option Addr) (c_a0_1 : Nat) (a0_1 : List (List Int)) (a_a0_1 : All 14 a0_1) (v_a0_1 : Vw H p_a0_1 a0_1.length c_a0_1 (ints a0_1.flatten)) (a1 : Int) (r0 : Bool) (hd : D_impl_Schedule_hasTeam fu a0_0 a0_1 a1 = some r0) : ACall Try.prog 99 [.agg [.int .i64 a0_0, .slice p_a0_1 a0_1.length c_a0_1].toArray, .int .i64 a1] H (.bool r0) H := by
  refine ACall.bodyP (N := 10) [(0, .agg [.int .i64 a0_0, .slice p_a0_1 a0_1.length c_a0_1].toArray), (1, .int .i64 a1)] Try.func99 rfl rfl rfl rfl ?_
  unfold D_impl_Schedule_hasTeam at hd
  have S0 : St [] H H [] := St.nil H
  refine AX.seq ?_
  refine AX.region ?_
  obtain ⟨G100, i101, hii101, hHG100, S102⟩ := S0.new (AObj.row false ([.int .i64 a0_0, .slice p_a0_1 a0_1.length c_a0_1]))
  refine AO.c rfl (s_box (i := i101) (cs := [.int .i64 a0_0, .slice p_a0_1 a0_1.length c_a0_1]) rfl hii101 rfl hHG100) ?_
  refine AO.p rfl (p_assign rfl) ?_
  refine AO.nil ?_
  refine AX.seq ?_
  refine AX.region ?_
  refine AO.p rfl (p_move rfl) ?_
  refine AO.p rfl (s_fieldAddr Try.underlying39 rfl Try.sizeOf2 (by decide) rfl rfl) ?_
  refine AO.c rfl (s_load Try.isAgg2 rfl (row_cell (S102.get (k := 0) rfl) rfl)) ?_
  obtain ⟨k104, hd105⟩ := chk_some hd
  refine AO.p rfl (p_subE rfl rfl k104) ?_
  obtain ⟨b106, h107, hd108⟩ := bnd_some hd105
  refine AO.c rfl (o_call (vs := [.int .i64 a1, .int .i64 0, .int .i64 (a0_0 - 1)]) rfl Try.call111 (W_impl_between fu G100 a1 0 (a0_0 - 1) b106 h107)) ?_
  refine AO.p rfl (p_assign rfl) ?_
  refine AO.nil ?_
  refine AX.ret ?_
  obtain rfl := some_inj hd108
  exact ⟨.inr rfl, _, res1 rfl (rv_tmp rfl), rfl, (flatB_ok rfl), S102.hold⟩

set_option maxHeartbeats 4000000 in
theorem W_impl_AreOpposite_1 (fu : Nat) (H : AHeap) (i_b0 : Nat) (ro_b0 : Bool) (b0_0 : Int) (p_b0_1 : Option Addr) (c_b0_1 : Nat) (b0_1 : List (List Int)) (a_b0_1 : All 14 b0_1) (v_b0_1 : Vw H p_b0_1 b0_1.length c_b0_1 (ints b0_1.flatten)) (o_b0 : hget H i_b0 = .row ro_b0 ([.int .i64 b0_0, .slice p_b0_1 b0_1.length c_b0_1])) (i_b1 : Nat) (ro_b1 : Bool) (b1_0 : Int) (o_b1 : hget H i_b1 = .row ro_b1 ([.int .i64 b1_0])) (i_b2 : Nat) (ro_b2 : Bool) (b2_0 : Int) (o_b2 : hget H i_b2 = .row ro_b2 ([.int .i64 b2_0])) (r0 : Bool) (hd : D_impl_AreOpposite_1 fu b0_0 b0_1 b1_0 b2_0 = some r0) : ACall Try.prog 98 [.pointer (some ⟨i_b0, 0, none⟩), .pointer (some ⟨i_b1, 0, none⟩), .pointer (some ⟨i_b2, 0, none⟩)] H (.bool r0) H := by
  refine ACall.bodyP (N := 17) [(0, .pointer (some ⟨i_b0, 0, none⟩)), (1, .pointer (some ⟨i_b1, 0, none⟩)), (2, .pointer (some ⟨i_b2, 0, none⟩))] Try.func98 rfl rfl rfl rfl ?_
  unfold D_impl_AreOpposite_1 at hd
  have S0 : St [] H H [] := St.nil H
  refine AX.seq ?_
  refine AX.region ?_
  refine AO.p rfl (p_assign rfl) ?_
  refine AO.nil ?_
  obtain ⟨r115, hb116, hd117⟩ := bnd_some hd
  refine AX.cut (fun t' H' => ∃ (b114 : Bool), b114 = r115 ∧ St [] H H' [] ∧ Am.Sub [(3, .bool b114)] t') ?_ ?_
  · skip
    refine AX.region ?_
    refine AO.c rfl (s_loadN (vs := [.int .i64 b0_0, .slice p_b0_1 b0_1.length c_b0_1]) Try.isAgg39 Try.sizeOf39 rfl rfl (row_cells (S0.old o_b0 (by simp)))) ?_
    refine AO.c rfl (s_load Try.isAgg2 rfl (row_cell (S0.old o_b1 (by simp)) rfl)) ?_
    obtain ⟨b118, h119, hd120⟩ := bnd_some hb116
    refine AO.c rfl (o_call (vs := [.agg [.int .i64 b0_0, .slice p_b0_1 b0_1.length c_b0_1].toArray, .int .i64 b1_0]) rfl Try.call99 (W_impl_Schedule_hasTeam fu H b0_0 p_b0_1 c_b0_1 b0_1 a_b0_1 (S0.view v_b0_1) b1_0 b118 h119)) ?_
    refine AO.p rfl (p_move rfl) ?_
    refine AO.cases (d := 7) rfl (fun c122 => ?_) (fun c122 => ?_)
    · have hd123 := bif_t c122 hd120
      refine AO.gc rfl rfl rfl (s_loadN (vs := [.int .i64 b0_0, .slice p_b0_1 b0_1.length c_b0_1]) Try.isAgg39 Try.sizeOf39 rfl rfl (row_cells (S0.old o_b0 (by simp)))) ?_
      refine AO.gc rfl rfl rfl (s_load Try.isAgg2 rfl (row_cell (S0.old o_b2 (by simp)) rfl)) ?_
      obtain ⟨b124, h125, hd126⟩ := bnd_some hd123
      refine AO.gc rfl rfl rfl (o_call (vs := [.agg [.int .i64 b0_0, .slice p_b0_1 b0_1.length c_b0_1].toArray, .int .i64 b2_0]) rfl Try.call99 (W_impl_Schedule_hasTeam fu H b0_0 p_b0_1 c_b0_1 b0_1 a_b0_1 (S0.view v_b0_1) b2_0 b124 h125)) ?_
      refine AO.p rfl (p_pickT rfl rfl) ?_
      refine AO.p rfl (p_move rfl) ?_
      refine AO.cases (d := 12) rfl (fun c128 => ?_) (fun c128 => ?_)
      · have hd129 := bif_t c128 hd126
        refine AO.gc rfl rfl rfl (s_load Try.isAgg2 rfl (row_cell (S0.old o_b1 (by simp)) rfl)) ?_
        refine AO.gc rfl rfl rfl (s_load Try.isAgg2 rfl (row_cell (S0.old o_b2 (by simp)) rfl)) ?_
        refine AO.gp rfl rfl rfl (p_neq rfl rfl) ?_
        refine AO.p rfl (p_pickT rfl rfl) ?_
        refine AO.p rfl (p_assign rfl) ?_
        refine AO.nil ?_
        exact ⟨(!decide (b1_0 = b2_0)), (some_inj hd129), S0, Sub.cons' rfl rfl (Sub.nil _)⟩
      · have hd130 := bif_f c128 hd126
        refine AO.gn rfl rfl rfl ?_
        refine AO.gn rfl rfl rfl ?_
        refine AO.gn rfl rfl rfl ?_
        refine AO.p rfl (p_pickF rfl rfl) ?_
        refine AO.p rfl (p_assign rfl) ?_
        refine AO.nil ?_
        exact ⟨false, (some_inj hd130), S0, Sub.cons' rfl rfl (Sub.nil _)⟩
    · have hd131 := bif_f c122 hd120
      refine AO.gn rfl rfl rfl ?_
      refine AO.gn rfl rfl rfl ?_
      refine AO.gn rfl rfl rfl ?_
      refine AO.p rfl (p_pickF rfl rfl) ?_
      refine AO.p rfl (p_move rfl) ?_
      refine AO.gn rfl rfl rfl ?_
      refine AO.gn rfl rfl rfl ?_
      refine AO.gn rfl rfl rfl ?_
      refine AO.p rfl (p_pickF rfl rfl) ?_
      refine AO.p rfl (p_assign rfl) ?_
      refine AO.nil ?_
      exact ⟨false, (some_inj hd131), S0, Sub.cons' rfl rfl (Sub.nil _)⟩
  · rintro t' G133 ⟨b114, rfl, S132, hsub134⟩
    refine AX.sub hsub134 ?_
    refine AX.ret ?_
    obtain rfl := some_inj hd117
    exact ⟨.inr rfl, _, res1 rfl (rv_tmp rfl), rfl, (flatB_ok rfl), S132.hold⟩

set_option maxHeartbeats 4000000 in
theorem W_impl_AreOpposite (fu : Nat) (H : AHeap) (a0_0 : Int) (p_a0_1 : Option Addr) (c_a0_1 : Nat) (a0_1 : List (List Int)) (a_a0_1 : All 14 a0_1) (v_a0_1 : Vw H p_a0_1 a0_1.length c_a0_1 (ints a0_1.flatten)) (p_a1 : Option Addr) (c_a1 : Nat) (T_a1 : Tb) (a1 : List (List Int)) (t_a1 : trows T_a1 = a1) (v_a1 : Vw H p_a1 a1.length c_a1 (tcells T_a1)) (w_a1 : TVw H T_a1) (a2 : Int) (a3 : Int) (r0 : Bool) (r1 : Int) (hd : D_impl_AreOpposite fu a0_0 a0_1 a1 a2 a3 = some (r0, r1)) : ACall Try.prog 45 [.agg [.int .i64 a0_0, .slice p_a0_1 a0_1.length c_a0_1].toArray, .slice p_a1 a1.length c_a1, .int .i64 a2, .int .i64 a3] H (.tuple #[.bool r0, .int .i64 r1]) H := by
  refine ACall.bodyP (N := 49) [(0, .agg [.int .i64 a0_0, .slice p_a0_1 a0_1.length c_a0_1].toArray), (1, .slice p_a1 a1.length c_a1), (2, .int .i64 a2), (3, .int .i64 a3)] Try.func45 rfl rfl rfl rfl ?_
  unfold D_impl_AreOpposite at hd
  have S0 : St [] H H [] := St.nil H
  refine AX.seq ?_
  refine AX.region ?_
  obtain ⟨G100, i101, hii101, hHG100, S102⟩ := S0.new (AObj.row false ([.int .i64 a0_0, .slice p_a0_1 a0_1.length c_a0_1]))
  refine AO.c rfl (s_box (i := i101) (cs := [.int .i64 a0_0, .slice p_a0_1 a0_1.length c_a0_1]) rfl hii101 rfl hHG100) ?_
  obtain ⟨G104, i105, hii105, hHG104, S106⟩ := S102.new (AObj.row false ([.int .i64 a2]))
  refine AO.c rfl (s_box (i := i105) (cs := [.int .i64 a2]) rfl hii105 rfl hHG104) ?_
  obtain ⟨G108, i109, hii109, hHG108, S110⟩ := S106.new (AObj.row false ([.int .i64 a3]))
  refine AO.c rfl (s_box (i := i109) (cs := [.int .i64 a3]) rfl hii109 rfl hHG108) ?_
  refine AO.p rfl (p_assign rfl) ?_
  refine AO.p rfl (p_assign rfl) ?_
  refine AO.nil ?_
  refine AX.seq ?_
  refine AX.seq ?_
  refine AX.region ?_
  refine AO.c rfl (s_loadN (vs := [.int .i64 a0_0, .slice p_a0_1 a0_1.length c_a0_1]) Try.isAgg39 Try.sizeOf39 rfl rfl (row_cells (S110.get (k := 2) rfl))) ?_
  refine AO.p rfl (p_move rfl) ?_
  refine AO.p rfl (p_makeFunc (fs := []) (cs := [.pointer (some ⟨i101, 0, none⟩), .pointer (some ⟨i105, 0, none⟩), .pointer (some ⟨i109, 0, none⟩)]) rfl rfl) ?_
  obtain ⟨x112, h113, hd114⟩ := bnd_some hd
  refine AO.c rfl (o_call (vs := [.agg [.int .i64 a0_0, .slice p_a0_1 a0_1.length c_a0_1].toArray, .slice p_a1 a1.length c_a1, .func (.func 98) #[] #[.pointer (some ⟨i101, 0, none⟩), .pointer (some ⟨i105, 0, none⟩), .pointer (some ⟨i109, 0, none⟩)]]) rfl Try.call97 (W_impl_venuesCode fu G108 a0_0 p_a0_1 c_a0_1 a0_1 a_a0_1 (S110.view v_a0_1) p_a1 c_a1 T_a1 a1 t_a1 (S110.view v_a1) (S110.tview w_a1) 98 #[] #[.pointer (some ⟨i101, 0, none⟩), .pointer (some ⟨i105, 0, none⟩), .pointer (some ⟨i109, 0, none⟩)] (fun _ => D_impl_AreOpposite_1 fu a0_0 a0_1 a2 a3) Try.call98 (fun G' hG  b' hb' => W_impl_AreOpposite_1 fu G' i101 false a0_0 p_a0_1 c_a0_1 a0_1 a_a0_1 (hG.view (S110.view v_a0_1)) (hG.get (S110.get (k := 2) rfl)) i105 false a2 (hG.get (S110.get (k := 1) rfl)) i109 false a3 (hG.get (S110.get (k := 0) rfl)) b' hb') x112 h113)) ?_
  refine AO.p rfl (p_assign rfl) ?_
  refine AO.nil ?_
  refine AX.seq ?_
  refine AX.region ?_
  refine AO.p rfl (p_move rfl) ?_
  refine AO.p rfl (p_neq rfl rfl) ?_
  refine AO.nil ?_
  refine AX.cond rfl (fun c116 => ?_) (fun c116 => ?_)
  · have hd117 := bif_t c116 hd114
    refine AX.seq ?_
    refine AX.region ?_
    refine AO.p rfl (p_move rfl) ?_
    refine AO.p rfl (p_assign rfl) ?_
    refine AO.p rfl (p_assign rfl) ?_
    refine AO.nil ?_
    refine AX.ret ?_
    obtain ⟨rfl, rfl⟩ := Prod.mk.inj (some_inj hd117)
    exact ⟨.inr rfl, _, res2 rfl (rv_tmp rfl) (rv_tmp rfl), rfl, (flat_t2 (flatB_ok rfl) (flatB_ok rfl)), S110.hold⟩
  · have hd119 := bif_f c116 hd114
    refine AX.skip ?_
    refine AX.seq ?_
    refine AX.seq ?_
    refine AX.region ?_
    refine AO.p rfl (p_move rfl) ?_
    refine AO.p rfl (p_len_slice rfl Try.underlying22) ?_
    refine AO.p rfl (p_move rfl) ?_
    refine AO.nil ?_
    obtain ⟨r287, hl288, hd289⟩ := bnd_some hd119
    refine AX.cutQ (fun t' H' => .inl () = r287 ∧ St [] H H' [] ∧ Am.Sub [] t') ?_ ?_
    · refine AX.block ?_
      refine AX.loopF (fun s' t' H' => ∃ (x233 : Int), x233 = s' ∧ St [] H H' [[(i105, AObj.row false ([.int .i64 a2]))], [(i109, AObj.row false ([.int .i64 a3]))]] ∧ Am.Sub [(6, .pointer (some ⟨i105, 0, none⟩)), (7, .pointer (some ⟨i109, 0, none⟩)), (22, .slice p_a1 a1.length c_a1), (23, .int .i64 ((a1.length : Nat) : Int)), (24, .int .i64 x233)] t') hl288 ?_ ?_
      · skip
        have S290 := S110.front 0 rfl
        have S291 := S290.front 1 rfl
        have S292 := S291.keep 2
        exact ⟨0, rfl, S292, Sub.cons' rfl rfl (Sub.cons' rfl rfl (Sub.cons' rfl rfl (Sub.cons' rfl rfl (Sub.cons' rfl rfl (Sub.nil _)))))⟩
      · rintro n293 _ t' G297 ⟨x233, rfl, S296, hsub298⟩ o299 ho294 hk295
        refine AX.sub hsub298 ?_
        unfold D_impl_AreOpposite_s0 at ho294
        refine AX.seq ?_
        refine AX.region ?_
        refine AO.p rfl (p_lss rfl rfl) ?_
        refine AO.nil ?_
        refine AX.seq ?_
        refine AX.cond rfl (fun c300 => ?_) (fun c300 => ?_)
        · have hd301 := bif_t c300 ho294
          refine AX.skip ?_
          refine AX.seq ?_
          refine AX.block ?_
          refine AX.seq ?_
          refine AX.region ?_
          obtain ⟨k302, hd303⟩ := chk_some hd301
          obtain ⟨p304, c305, e306, f307⟩ := tget t_a1 (lt_len rfl (inR_lt k302))
          refine AO.p rfl (s_indexV (q := off p_a1 + x233.toNat) Try.underlying22 Try.sizeOf68 rfl ((S296.view v_a1).p f307) rfl k302 (o1 _ _)) ?_
          refine AO.c rfl (s_load Try.isAgg68 rfl ((S296.view v_a1).get _ _ f307)) ?_
          refine AO.p rfl (p_assign rfl) ?_
          refine AO.nil ?_
          refine AX.seq ?_
          refine DR.startS [false, false, false, false, false, false, false, false, false, false] mix (by kernel_rfl) (fun hst => ?_)
          refine DR.p rfl rfl (p_move rfl) ?_
          refine DR.r rfl rfl (r_load rfl Try.isAgg2) (one_read (row_cell (S296.get (k := 0) rfl) rfl) (.of_flat0 rfl)) ?_
          obtain ⟨k308, hd309⟩ := chk_some hd303
          refine DR.p rfl rfl (s_indexV (q := off p304 + a2.toNat) Try.underlying68 Try.sizeOf2 rfl ((TVw.at (S296.tview w_a1) e306).p (ints_get (lt_len rfl (inR_lt k308)))) rfl k308 (o1 _ _)) ?_
          refine DR.r rfl rfl (r_load rfl Try.isAgg2) (one_read ((TVw.at (S296.tview w_a1) e306).get _ _ (ints_get (lt_len rfl (inR_lt k308)))) (.of_flat0 rfl)) ?_
          refine DR.p rfl rfl (p_move rfl) ?_
          refine DR.r rfl rfl (r_load rfl Try.isAgg2) (one_read (row_cell (S296.get (k := 1) rfl) rfl) (.of_flat0 rfl)) ?_
          obtain ⟨k310, hd311⟩ := chk_some hd309
          refine DR.p rfl rfl (s_indexV (q := off p304 + a3.toNat) Try.underlying68 Try.sizeOf2 rfl ((TVw.at (S296.tview w_a1) e306).p (ints_get (lt_len rfl (inR_lt k310)))) rfl k310 (o1 _ _)) ?_
          refine DR.r rfl rfl (r_load rfl Try.isAgg2) (one_read ((TVw.at (S296.tview w_a1) e306).get _ _ (ints_get (lt_len rfl (inR_lt k310)))) (.of_flat0 rfl)) ?_
          refine DR.p rfl rfl (p_assign rfl) ?_
          refine DR.p rfl rfl (p_assign rfl) ?_
          refine DR.nil 10 [] hst (by kernel_rfl) trivial ?_
          obtain ⟨r323, hb324, hd325⟩ := bnd_some hd311
          refine AX.cut (fun t' H' => ∃ (b322 : Bool), b322 = r323 ∧ St [] H H' [[(i105, AObj.row false ([.int .i64 a2]))], [(i109, AObj.row false ([.int .i64 a3]))]] ∧ Am.Sub [(6, .pointer (some ⟨i105, 0, none⟩)), (7, .pointer (some ⟨i109, 0, none⟩)), (22, .slice p_a1 a1.length c_a1), (23, .int .i64 ((a1.length : Nat) : Int)), (24, .int .i64 x233), (47, .bool b322)] t') ?_ ?_
          · skip
            refine AX.region ?_
            refine AO.p rfl (p_move rfl) ?_
            refine AO.p rfl (p_move rfl) ?_
            obtain ⟨k326, hd327⟩ := chk_some hb324
            refine AO.p rfl (p_addE rfl rfl k326) ?_
            refine AO.p rfl (p_neq rfl rfl) ?_
            refine AO.p rfl (p_move rfl) ?_
            refine AO.cases (d := 40) rfl (fun c328 => ?_) (fun c328 => ?_)
            · have hd329 := bif_t c328 hd327
              refine AO.gp rfl rfl rfl (p_move rfl) ?_
              refine AO.gp rfl rfl rfl (p_geq rfl rfl) ?_
              refine AO.gp rfl rfl rfl (p_move rfl) ?_
              refine AO.cases (d := 43) rfl (fun c330 => ?_) (fun c330 => ?_)
              · have hd331 := bif_t c330 hd329
                refine AO.gn rfl rfl rfl ?_
                refine AO.gn rfl rfl rfl ?_
                refine AO.gp rfl rfl rfl (p_pickT rfl rfl) ?_
                refine AO.p rfl (p_pickT rfl rfl) ?_
                refine AO.nil ?_
                have S332 := S296.front 1 rfl
                have S333 := S332.front 1 rfl
                exact ⟨true, (some_inj hd331), S333, Sub.cons' rfl rfl (Sub.cons' rfl rfl (Sub.cons' rfl rfl (Sub.cons' rfl rfl (Sub.cons' rfl rfl (Sub.cons' rfl rfl (Sub.nil _))))))⟩
              · have hd334 := bif_f c330 hd329
                refine AO.gp rfl rfl rfl (p_move rfl) ?_
                refine AO.gp rfl rfl rfl (p_geq rfl rfl) ?_
                refine AO.gp rfl rfl rfl (p_pickF rfl rfl) ?_
                refine AO.p rfl (p_pickT rfl rfl) ?_
                refine AO.nil ?_
                have S335 := S296.front 1 rfl
                have S336 := S335.front 1 rfl
                exact ⟨(decide (0 ≤ rd (rw_ a1 x233.toNat) a3.toNat)), (some_inj hd334), S336, Sub.cons' rfl rfl (Sub.cons' rfl rfl (Sub.cons' rfl rfl (Sub.cons' rfl rfl (Sub.cons' rfl rfl (Sub.cons' rfl rfl (Sub.nil _))))))⟩
            · have hd337 := bif_f c328 hd327
              refine AO.gn rfl rfl rfl ?_
              refine AO.gn rfl rfl rfl ?_
              refine AO.gn rfl rfl rfl ?_
              refine AO.gu rfl rfl rfl ?_
              refine AO.gu rfl rfl rfl ?_
              refine AO.gn rfl rfl rfl ?_
              refine AO.p rfl (p_pickF rfl rfl) ?_
              refine AO.nil ?_
              have S338 := S296.front 1 rfl
              have S339 := S338.front 1 rfl
              exact ⟨false, (some_inj hd337), S339, Sub.cons' rfl rfl (Sub.cons' rfl rfl (Sub.cons' rfl rfl (Sub.cons' rfl rfl (Sub.cons' rfl rfl (Sub.cons' rfl rfl (Sub.nil _))))))⟩
          · rintro t' G341 ⟨b322, rfl, S340, hsub342⟩
            refine AX.sub hsub342 ?_
            refine AX.cond rfl (fun c343 => ?_) (fun c343 => ?_)
            · have hd344 := bif_t c343 hd325
              refine AX.seq ?_
              refine AX.region ?_
              refine AO.p rfl (p_assign rfl) ?_
              refine AO.p rfl (p_assign rfl) ?_
              refine AO.nil ?_
              refine AX.ret ?_
              obtain rfl := some_inj hd344
              have z345 : _ = r287 := hk295
              subst z345
              obtain ⟨rfl, rfl⟩ := Prod.mk.inj (some_inj hd289)
              exact ⟨.inr rfl, _, res2 rfl (rv_tmp rfl) (rv_tmp rfl), rfl, (flat_t2 (flatB_ok rfl) (flatB_ok rfl)), S340.hold⟩
            · have hd347 := bif_f c343 hd325
              refine AX.skip ?_
              refine AX.region ?_
              obtain ⟨k348, hd349⟩ := chk_some hd347
              refine AO.p rfl (p_addE rfl rfl k348) ?_
              refine AO.p rfl (p_move rfl) ?_
              refine AO.nil ?_
              obtain rfl := some_inj hd349
              have S351 := S340.front 1 rfl
              have S352 := S351.front 1 rfl
              exact ⟨x233 + 1, hk295, (x233 + 1), rfl, S352, Sub.cons' rfl rfl (Sub.cons' rfl rfl (Sub.cons' rfl rfl (Sub.cons' rfl rfl (Sub.cons' rfl rfl (Sub.nil _)))))⟩
        · have hd353 := bif_f c300 ho294
          refine AX.exit ?_
          obtain rfl := some_inj hd353
          have S354 := S296.keep 0
          exact ⟨hk295, S354, Sub.nil _⟩
    · rintro t' G356 ⟨rfl, S355, hsub357⟩
      refine AX.sub hsub357 ?_
      refine AX.seq ?_
      refine AX.region ?_
      refine AO.p rfl (p_assign rfl) ?_
      refine AO.p rfl (p_assign rfl) ?_
      refine AO.nil ?_
      refine AX.ret ?_
      obtain ⟨rfl, rfl⟩ := Prod.mk.inj (some_inj hd289)
      exact ⟨.inr rfl, _, res2 rfl (rv_tmp rfl) (rv_tmp rfl), rfl, (flat_t2 (flatB_ok rfl) (flatB_ok rfl)), S355.hold⟩

end Go.Proofs.Ytpaaoafgahbokaa
