/-
  The program computes that, printed by a program. No condition.
-/
import Derived.Test.YtfiilgnebmidbaaDoorDX
import Derived.Test.YtfiilgnebmidbaaDoorWF
import Derived.Test.YtfiilgnebmidbaaDoorProg
import Derived.KernelRfl
namespace Go.Proofs.YtfiilgnebmidbaaDoor
open Go Go.RowKit Am
set_option linter.unusedVariables false
set_option linter.unusedSimpArgs false
set_option maxRecDepth 20000
set_option maxHeartbeats 4000000 in
theorem W_laws_FnExactSquareText (fu : Nat) (H : AHeap) (a0_0 : Int) (p_a0_1 : Option Addr) (c_a0_1 : Nat) (T_a0_1 : Tb) (a0_1 : List (List Int)) (t_a0_1 : trows T_a0_1 = a0_1) (v_a0_1 : Vw H p_a0_1 a0_1.length c_a0_1 (tcells T_a0_1)) (w_a0_1 : TVw H T_a0_1) (r0 : Bool) (hd : D_laws_FnExactSquareText fu a0_0 a0_1 = some r0) : ACall Tryd.prog 3 [.agg [.int .i64 a0_0, .slice p_a0_1 a0_1.length c_a0_1].toArray] H (.bool r0) H := by
  refine ACall.bodyP (N := 40) [(0, .agg [.int .i64 a0_0, .slice p_a0_1 a0_1.length c_a0_1].toArray)] Tryd.func3 rfl rfl rfl rfl ?_
  unfold D_laws_FnExactSquareText at hd
  have S0 : St [] H H [] := St.nil H
  refine AX.seq ?_
  refine AX.region ?_
  obtain ⟨G100, i101, hii101, hHG100, S102⟩ := S0.new (AObj.row false ([.int .i64 a0_0, .slice p_a0_1 a0_1.length c_a0_1]))
  refine AO.c rfl (s_box (i := i101) (cs := [.int .i64 a0_0, .slice p_a0_1 a0_1.length c_a0_1]) rfl hii101 rfl hHG100) ?_
  refine AO.p rfl (p_assign rfl) ?_
  refine AO.nil ?_
  refine AX.seq ?_
  refine AX.region ?_
  refine AO.p rfl (p_assign rfl) ?_
  refine AO.nil ?_
  refine AX.seq ?_
  refine AX.region ?_
  refine AO.c rfl (s_loadN (vs := [.int .i64 a0_0, .slice p_a0_1 a0_1.length c_a0_1]) Tryd.isAgg24 Tryd.sizeOf24 rfl rfl (row_cells (S102.get (k := 0) rfl))) ?_
  refine AO.p rfl (p_move rfl) ?_
  obtain ⟨x104, h105, hd106⟩ := bnd_some hd
  refine AO.c rfl (o_call (vs := [.agg [.int .i64 a0_0, .slice p_a0_1 a0_1.length c_a0_1].toArray, .int .i64 1048576]) rfl Tryd.call7 (W_laws_szSquare fu G100 a0_0 p_a0_1 c_a0_1 T_a0_1 a0_1 t_a0_1 (S102.view v_a0_1) (S102.tview w_a0_1) 1048576 x104 h105)) ?_
  refine AO.p rfl (p_assign rfl) ?_
  refine AO.nil ?_
  refine AX.seq ?_
  refine AX.seq ?_
  refine AX.region ?_
  refine AO.p rfl (p_move rfl) ?_
  refine AO.p rfl (p_lss rfl rfl) ?_
  refine AO.nil ?_
  refine AX.cond rfl (fun c108 => ?_) (fun c108 => ?_)
  · have hd109 := bif_t c108 hd106
    refine AX.seq ?_
    refine AX.region ?_
    refine AO.p rfl (p_assign rfl) ?_
    refine AO.nil ?_
    refine AX.ret ?_
    obtain rfl := some_inj hd109
    exact ⟨.inr rfl, _, res1 rfl (rv_tmp rfl), rfl, (flatB_ok rfl), S102.hold⟩
  · have hd110 := bif_f c108 hd106
    refine AX.skip ?_
    refine AX.seq ?_
    refine AX.region ?_
    refine AO.c rfl (s_loadN (vs := [.int .i64 a0_0, .slice p_a0_1 a0_1.length c_a0_1]) Tryd.isAgg24 Tryd.sizeOf24 rfl rfl (row_cells (S102.get (k := 0) rfl))) ?_
    obtain ⟨⟨x111, rs112⟩, h113, hd114⟩ := bnd_some hd110
    obtain ⟨_, G123, hc122, p115, c116, T119, rfl, S124, B118, t120, s121⟩ := W_laws_toSquare fu G100 a0_0 p_a0_1 c_a0_1 T_a0_1 a0_1 t_a0_1 (S102.view v_a0_1) (S102.tview w_a0_1) x111 rs112 h113
    have S125 := S102.call S124
    refine AO.c rfl (o_call (vs := [.agg [.int .i64 a0_0, .slice p_a0_1 a0_1.length c_a0_1].toArray]) rfl Tryd.call9 hc122) ?_
    obtain ⟨⟨s126, x127⟩, h128, hd129⟩ := bnd_some hd114
    refine AO.c rfl (o_call (vs := [.agg [.int .i64 x111, .slice p115 rs112.length c116].toArray]) rfl Tryd.call8 (W_spec_SquareText fu G123 x111 p115 c116 T119 rs112 t120 (S125.oview (k := 0) rfl B118 (tc_len1 t120 rfl)) (S125.oviewT (k := 1) rfl s121) s126 x127 h128)) ?_
    refine AO.p rfl (p_move rfl) ?_
    refine AO.p rfl (p_extract rfl rfl) ?_
    refine AO.p rfl (p_extract rfl rfl) ?_
    refine AO.p rfl (p_assign rfl) ?_
    refine AO.p rfl (p_assign rfl) ?_
    refine AO.nil ?_
    refine AX.seq ?_
    refine AX.region ?_
    refine AO.c rfl (s_loadN (vs := [.int .i64 a0_0, .slice p_a0_1 a0_1.length c_a0_1]) Tryd.isAgg24 Tryd.sizeOf24 rfl rfl (row_cells (S125.get (k := 2) rfl))) ?_
    obtain ⟨⟨x131, rs132⟩, h133, hd134⟩ := bnd_some hd129
    obtain ⟨_, G143, hc142, p135, c136, T139, rfl, S144, B138, t140, s141⟩ := W_laws_toSquare fu G123 a0_0 p_a0_1 c_a0_1 T_a0_1 a0_1 t_a0_1 (S125.view v_a0_1) (S125.tview w_a0_1) x131 rs132 h133
    have S145 := S125.call S144
    refine AO.c rfl (o_call (vs := [.agg [.int .i64 a0_0, .slice p_a0_1 a0_1.length c_a0_1].toArray]) rfl Tryd.call9 hc142) ?_
    obtain ⟨G146, i147, hii147, hHG146, S148⟩ := S145.new (AObj.row false ([.int .i64 0, .slice none 0 0]))
    refine AO.c rfl (s_alloc (i := i147) (cs := [.int .i64 0, .slice none 0 0]) Tryd.zeroValue28 rfl rfl hii147 hHG146) ?_
    obtain ⟨G150, hHG150, S151⟩ := S148.set (k := 0) (i := i147) rfl (AObj.row false ([.int .i64 x131, .slice p135 rs132.length c136]))
    refine AO.s (s_storeAll (vs := [.int .i64 x131, .slice p135 rs132.length c136]) Tryd.sizeOf28 rfl rfl (ones_list rfl) (S148.get (k := 0) rfl) rfl rfl hHG150) ?_
    refine AO.nil ?_
    refine AX.seq ?_
    refine AX.region ?_
    refine AO.c rfl (s_loadN (vs := [.int .i64 x131, .slice p135 rs132.length c136]) Tryd.isAgg28 Tryd.sizeOf28 rfl rfl (row_cells (S151.get (k := 0) rfl))) ?_
    obtain ⟨⟨s152, x153⟩, h154, hd155⟩ := bnd_some hd134
    refine AO.c rfl (o_call (vs := [.agg [.int .i64 x131, .slice p135 rs132.length c136].toArray]) rfl Tryd.call10 (W_impl_SquareText fu G150 x131 p135 c136 T139 rs132 t140 (S151.oview (k := 1) rfl B138 (tc_len1 t140 rfl)) (S151.oviewT (k := 2) rfl s141) s152 x153 h154)) ?_
    refine AO.p rfl (p_move rfl) ?_
    refine AO.p rfl (p_extract rfl rfl) ?_
    refine AO.p rfl (p_extract rfl rfl) ?_
    refine AO.p rfl (p_assign rfl) ?_
    refine AO.p rfl (p_assign rfl) ?_
    refine AO.nil ?_
    refine AX.seq ?_
    refine AX.cut (fun t' H' => G150 = H' ∧ Am.Sub [(1, .pointer (some ⟨i101, 0, none⟩)), (6, .pointer (some ⟨i147, 0, none⟩)), (34, .bool ((!((s152 : ByteArray).toList == (s126 : ByteArray).toList)) || (!decide (x153 = x127))))] t') ?_ ?_
    · skip
      refine AX.region ?_
      refine AO.p rfl (p_move rfl) ?_
      refine AO.p rfl (p_move rfl) ?_
      refine AO.p rfl (p_neqS rfl rfl) ?_
      refine AO.p rfl (p_move rfl) ?_
      refine AO.cases (d := 30) rfl (fun c160 => ?_) (fun c160 => ?_)
      · skip
        refine AO.gn rfl rfl rfl ?_
        refine AO.gn rfl rfl rfl ?_
        refine AO.gn rfl rfl rfl ?_
        refine AO.p rfl (p_pickT rfl rfl) ?_
        refine AO.nil ?_
        exact ⟨rfl, Sub.cons' rfl rfl (Sub.cons' rfl rfl (Sub.cons' rfl (bool_eq (by simp only [c160, Bool.true_and, Bool.false_and, Bool.and_true, Bool.and_false, Bool.true_or, Bool.false_or, Bool.or_true, Bool.or_false, Bool.not_true, Bool.not_false, cond_true, cond_false])) (Sub.nil _)))⟩
      · skip
        refine AO.gp rfl rfl rfl (p_move rfl) ?_
        refine AO.gp rfl rfl rfl (p_move rfl) ?_
        refine AO.gp rfl rfl rfl (p_neq rfl rfl) ?_
        refine AO.p rfl (p_pickF rfl rfl) ?_
        refine AO.nil ?_
        exact ⟨rfl, Sub.cons' rfl rfl (Sub.cons' rfl rfl (Sub.cons' rfl (bool_eq (by simp only [c160, Bool.true_and, Bool.false_and, Bool.and_true, Bool.and_false, Bool.true_or, Bool.false_or, Bool.or_true, Bool.or_false, Bool.not_true, Bool.not_false, cond_true, cond_false])) (Sub.nil _)))⟩
    · rintro t' _ ⟨rfl, hsub161⟩
      refine AX.sub hsub161 ?_
      refine AX.cond rfl (fun c162 => ?_) (fun c162 => ?_)
      · have hd163 := bif_t c162 hd155
        refine AX.seq ?_
        refine AX.region ?_
        refine AO.p rfl (p_assign rfl) ?_
        refine AO.nil ?_
        refine AX.ret ?_
        obtain rfl := some_inj hd163
        exact ⟨.inr rfl, _, res1 rfl (rv_tmp rfl), rfl, (flatB_ok rfl), S151.hold⟩
      · have hd164 := bif_f c162 hd155
        refine AX.skip ?_
        refine AX.seq ?_
        refine AX.seq ?_
        refine DR.startS [false, false, true, true, false] mix (by kernel_rfl) (fun hst => ?_)
        refine DR.r rfl rfl (r_loadN (vs := [.int .i64 x131, .slice p135 rs132.length c136]) rfl Tryd.isAgg28 Tryd.sizeOf28 rfl) (many_row (row_cells (S151.get (k := 0) rfl)) (bel_cons (.of_flat0 rfl) (bel_cons (S151.oin (k := 1) rfl B138).bel bel_nil))) ?_
        refine DR.r rfl rfl (r_loadN (vs := [.int .i64 a0_0, .slice p_a0_1 a0_1.length c_a0_1]) rfl Tryd.isAgg24 Tryd.sizeOf24 rfl) (many_row (row_cells (S151.get (k := 5) rfl)) (bel_cons (.of_flat0 rfl) (bel_cons (S151.view v_a0_1).inn.bel bel_nil))) ?_
        obtain ⟨⟨x165, rs166⟩, h167, hd168⟩ := bnd_some hd164
        obtain ⟨_, G177, hc176, p169, c170, T173, rfl, S178, B172, t174, s175⟩ := W_laws_toSquare fu G150 a0_0 p_a0_1 c_a0_1 T_a0_1 a0_1 t_a0_1 (S151.view v_a0_1) (S151.tview w_a0_1) x165 rs166 h167
        have S179 := S151.call S178
        refine DR.w rfl rfl (o_call (vs := [.agg [.int .i64 a0_0, .slice p_a0_1 a0_1.length c_a0_1].toArray]) rfl Tryd.call9 hc176) (S178.len) ?_
        obtain ⟨b180, h181, hd182⟩ := bnd_some hd168
        refine DR.w rfl rfl (o_call (vs := [.agg [.int .i64 x131, .slice p135 rs132.length c136].toArray, .agg [.int .i64 x165, .slice p169 rs166.length c170].toArray]) rfl Tryd.call11 (W_laws_eqSquare fu G177 x131 p135 c136 T139 rs132 t140 (S179.oview (k := 3) rfl B138 (tc_len1 t140 rfl)) (S179.oviewT (k := 4) rfl s141) x165 p169 c170 T173 rs166 t174 (S179.oview (k := 0) rfl B172 (tc_len1 t174 rfl)) (S179.oviewT (k := 1) rfl s175) b180 h181)) (Nat.le_refl _) ?_
        refine DR.p rfl rfl (p_not rfl) ?_
        refine DR.nil 5 [(0, 2)] hst (by kernel_rfl) ⟨(rdN (fun h => S178.hold _ h)), trivial⟩ ?_
        refine AX.cond rfl (fun c184 => ?_) (fun c184 => ?_)
        · have hd185 := bif_t c184 hd182
          refine AX.seq ?_
          refine AX.region ?_
          refine AO.p rfl (p_assign rfl) ?_
          refine AO.nil ?_
          refine AX.ret ?_
          obtain rfl := some_inj hd185
          exact ⟨.inr rfl, _, res1 rfl (rv_tmp rfl), rfl, (flatB_ok rfl), S179.hold⟩
        · have hd186 := bif_f c184 hd182
          refine AX.skip ?_
          refine AX.seq ?_
          refine AX.region ?_
          refine AO.p rfl (p_assign rfl) ?_
          refine AO.nil ?_
          refine AX.ret ?_
          obtain rfl := some_inj hd186
          exact ⟨.inr rfl, _, res1 rfl (rv_tmp rfl), rfl, (flatB_ok rfl), S179.hold⟩

end Go.Proofs.YtfiilgnebmidbaaDoor
