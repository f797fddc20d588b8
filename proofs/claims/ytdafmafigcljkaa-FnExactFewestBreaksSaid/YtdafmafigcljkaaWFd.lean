/-
  The program computes that, printed by a program. No condition.
-/
import Derived.Test.YtdafmafigcljkaaDFd
import Derived.Test.YtdafmafigcljkaaWFa
import Derived.Test.YtdafmafigcljkaaWFc
import Derived.Test.YtdafmafigcljkaaWL
import Derived.Test.YtdafmafigcljkaaProg
import Derived.KernelRfl
namespace Go.Proofs.Ytdafmafigcljkaa
open Go Go.RowKit Am
set_option linter.unusedVariables false
set_option linter.unusedSimpArgs false
set_option maxRecDepth 20000
set_option maxHeartbeats 4000000 in
theorem W_laws_FnExactFewestBreaks (fu : Nat) (H : AHeap) (a0_0 : Int) (p_a0_1 : Option Addr) (c_a0_1 : Nat) (a0_1 : List (List Int)) (a_a0_1 : All 14 a0_1) (v_a0_1 : Vw H p_a0_1 a0_1.length c_a0_1 (ints a0_1.flatten)) (r0 : Bool) (hd : D_laws_FnExactFewestBreaks fu a0_0 a0_1 = some r0) : ACall Try.prog 5 [.agg [.int .i64 a0_0, .slice p_a0_1 a0_1.length c_a0_1].toArray] H (.bool r0) H := by
  refine ACall.bodyP (N := 40) [(0, .agg [.int .i64 a0_0, .slice p_a0_1 a0_1.length c_a0_1].toArray)] Try.func5 rfl rfl rfl rfl ?_
  unfold D_laws_FnExactFewestBreaks at hd
  have S0 : St [] H H [] := St.nil H
  refine AX.seq ?_
  refine AX.region ?_
  obtain ⟨G100, i101, hii101, hHG100, S102⟩ := S0.new (AObj.row false ([.int .i64 a0_0, .slice p_a0_1 a0_1.length c_a0_1]))
  refine AO.c rfl (s_box (i := i101) (cs := [.int .i64 a0_0, .slice p_a0_1 a0_1.length c_a0_1]) rfl hii101 rfl hHG100) ?_
  refine AO.p rfl (p_assign rfl) ?_
  refine AO.nil ?_
  refine AX.seq ?_
  refine AX.region ?_
  refine AO.p rfl (p_assign rfl) ?_
  refine AO.nil ?_
  refine AX.seq ?_
  refine AX.region ?_
  refine AO.c rfl (s_loadN (vs := [.int .i64 a0_0, .slice p_a0_1 a0_1.length c_a0_1]) Try.isAgg32 Try.sizeOf32 rfl rfl (row_cells (S102.get (k := 0) rfl))) ?_
  refine AO.p rfl (p_move rfl) ?_
  obtain ⟨x104, h105, hd106⟩ := bnd_some hd
  refine AO.c rfl (o_call (vs := [.agg [.int .i64 a0_0, .slice p_a0_1 a0_1.length c_a0_1].toArray, .int .i64 1048576]) rfl Try.call17 (W_laws_szSchedule fu G100 a0_0 p_a0_1 c_a0_1 a0_1 a_a0_1 (S102.view v_a0_1) 1048576 x104 h105)) ?_
  refine AO.p rfl (p_assign rfl) ?_
  refine AO.nil ?_
  refine AX.seq ?_
  refine AX.seq ?_
  refine AX.region ?_
  refine AO.p rfl (p_move rfl) ?_
  refine AO.p rfl (p_lss rfl rfl) ?_
  refine AO.nil ?_
  refine AX.cond rfl (fun c108 => ?_) (fun c108 => ?_)
  · have hd109 := bif_t c108 hd106
    refine AX.seq ?_
    refine AX.region ?_
    refine AO.p rfl (p_assign rfl) ?_
    refine AO.nil ?_
    refine AX.ret ?_
    obtain rfl := some_inj hd109
    exact ⟨.inr rfl, _, res1 rfl (rv_tmp rfl), rfl, (flatB_ok rfl), S102.hold⟩
  · have hd110 := bif_f c108 hd106
    refine AX.skip ?_
    refine AX.seq ?_
    refine AX.region ?_
    refine AO.c rfl (s_loadN (vs := [.int .i64 a0_0, .slice p_a0_1 a0_1.length c_a0_1]) Try.isAgg32 Try.sizeOf32 rfl rfl (row_cells (S102.get (k := 0) rfl))) ?_
    obtain ⟨⟨x111, rs112⟩, h113, hd114⟩ := bnd_some hd110
    obtain ⟨_, G121, hc120, p115, c116, rfl, S122, B118, a119⟩ := W_laws_toSchedule fu G100 a0_0 p_a0_1 c_a0_1 a0_1 a_a0_1 (S102.view v_a0_1) x111 rs112 h113
    have S123 := S102.call S122
    refine AO.c rfl (o_call (vs := [.agg [.int .i64 a0_0, .slice p_a0_1 a0_1.length c_a0_1].toArray]) rfl Try.call19 hc120) ?_
    obtain ⟨⟨x124, x125⟩, h126, hd127⟩ := bnd_some hd114
    refine AO.c rfl (o_call (vs := [.agg [.int .i64 x111, .slice p115 rs112.length c116].toArray]) rfl Try.call18 (W_spec_FewestBreaks fu G121 x111 p115 c116 rs112 a119 (S123.oview (k := 0) rfl B118 (flat_len1 a119 rfl)) x124 x125 h126)) ?_
    refine AO.p rfl (p_move rfl) ?_
    refine AO.p rfl (p_extract rfl rfl) ?_
    refine AO.p rfl (p_extract rfl rfl) ?_
    refine AO.p rfl (p_assign rfl) ?_
    refine AO.p rfl (p_assign rfl) ?_
    refine AO.nil ?_
    refine AX.seq ?_
    refine AX.region ?_
    refine AO.c rfl (s_loadN (vs := [.int .i64 a0_0, .slice p_a0_1 a0_1.length c_a0_1]) Try.isAgg32 Try.sizeOf32 rfl rfl (row_cells (S123.get (k := 1) rfl))) ?_
    obtain ⟨⟨x129, rs130⟩, h131, hd132⟩ := bnd_some hd127
    obtain ⟨_, G139, hc138, p133, c134, rfl, S140, B136, a137⟩ := W_laws_toSchedule fu G121 a0_0 p_a0_1 c_a0_1 a0_1 a_a0_1 (S123.view v_a0_1) x129 rs130 h131
    have S141 := S123.call S140
    refine AO.c rfl (o_call (vs := [.agg [.int .i64 a0_0, .slice p_a0_1 a0_1.length c_a0_1].toArray]) rfl Try.call19 hc138) ?_
    obtain ⟨G142, i143, hii143, hHG142, S144⟩ := S141.new (AObj.row false ([.int .i64 0, .slice none 0 0]))
    refine AO.c rfl (s_alloc (i := i143) (cs := [.int .i64 0, .slice none 0 0]) Try.zeroValue37 rfl rfl hii143 hHG142) ?_
    obtain ⟨G146, hHG146, S147⟩ := S144.set (k := 0) (i := i143) rfl (AObj.row false ([.int .i64 x129, .slice p133 rs130.length c134]))
    refine AO.s (s_storeAll (vs := [.int .i64 x129, .slice p133 rs130.length c134]) Try.sizeOf37 rfl rfl (ones_list rfl) (S144.get (k := 0) rfl) rfl rfl hHG146) ?_
    refine AO.nil ?_
    refine AX.seq ?_
    refine AX.region ?_
    refine AO.c rfl (s_loadN (vs := [.int .i64 x129, .slice p133 rs130.length c134]) Try.isAgg37 Try.sizeOf37 rfl rfl (row_cells (S147.get (k := 0) rfl))) ?_
    obtain ⟨⟨x148, x149⟩, h150, hd151⟩ := bnd_some hd132
    refine AO.c rfl (o_call (vs := [.agg [.int .i64 x129, .slice p133 rs130.length c134].toArray]) rfl Try.call20 (W_impl_FewestBreaks fu G146 x129 p133 c134 rs130 a137 (S147.oview (k := 1) rfl B136 (flat_len1 a137 rfl)) x148 x149 h150)) ?_
    refine AO.p rfl (p_move rfl) ?_
    refine AO.p rfl (p_extract rfl rfl) ?_
    refine AO.p rfl (p_extract rfl rfl) ?_
    refine AO.p rfl (p_assign rfl) ?_
    refine AO.p rfl (p_assign rfl) ?_
    refine AO.nil ?_
    refine AX.seq ?_
    refine AX.cut (fun t' H' => G146 = H' ∧ Am.Sub [(1, .pointer (some ⟨i101, 0, none⟩)), (6, .pointer (some ⟨i143, 0, none⟩)), (34, .bool ((!decide (x148 = x124)) || (!decide (x149 = x125))))] t') ?_ ?_
    · skip
      refine AX.region ?_
      refine AO.p rfl (p_move rfl) ?_
      refine AO.p rfl (p_move rfl) ?_
      refine AO.p rfl (p_neq rfl rfl) ?_
      refine AO.p rfl (p_move rfl) ?_
      refine AO.cases (d := 30) rfl (fun c156 => ?_) (fun c156 => ?_)
      · skip
        refine AO.gn rfl rfl rfl ?_
        refine AO.gn rfl rfl rfl ?_
        refine AO.gn rfl rfl rfl ?_
        refine AO.p rfl (p_pickT rfl rfl) ?_
        refine AO.nil ?_
        exact ⟨rfl, Sub.cons' rfl rfl (Sub.cons' rfl rfl (Sub.cons' rfl (bool_eq (by simp only [c156, Bool.true_and, Bool.false_and, Bool.and_true, Bool.and_false, Bool.true_or, Bool.false_or, Bool.or_true, Bool.or_false, Bool.not_true, Bool.not_false, cond_true, cond_false])) (Sub.nil _)))⟩
      · skip
        refine AO.gp rfl rfl rfl (p_move rfl) ?_
        refine AO.gp rfl rfl rfl (p_move rfl) ?_
        refine AO.gp rfl rfl rfl (p_neq rfl rfl) ?_
        refine AO.p rfl (p_pickF rfl rfl) ?_
        refine AO.nil ?_
        exact ⟨rfl, Sub.cons' rfl rfl (Sub.cons' rfl rfl (Sub.cons' rfl (bool_eq (by simp only [c156, Bool.true_and, Bool.false_and, Bool.and_true, Bool.and_false, Bool.true_or, Bool.false_or, Bool.or_true, Bool.or_false, Bool.not_true, Bool.not_false, cond_true, cond_false])) (Sub.nil _)))⟩
    · rintro t' _ ⟨rfl, hsub157⟩
      refine AX.sub hsub157 ?_
      refine AX.cond rfl (fun c158 => ?_) (fun c158 => ?_)
      · have hd159 := bif_t c158 hd151
        refine AX.seq ?_
        refine AX.region ?_
        refine AO.p rfl (p_assign rfl) ?_
        refine AO.nil ?_
        refine AX.ret ?_
        obtain rfl := some_inj hd159
        exact ⟨.inr rfl, _, res1 rfl (rv_tmp rfl), rfl, (flatB_ok rfl), S147.hold⟩
      · have hd160 := bif_f c158 hd151
        refine AX.skip ?_
        refine AX.seq ?_
        refine AX.seq ?_
        refine DR.startS [false, false, true, true, false] mix (by kernel_rfl) (fun hst => ?_)
        refine DR.r rfl rfl (r_loadN (vs := [.int .i64 x129, .slice p133 rs130.length c134]) rfl Try.isAgg37 Try.sizeOf37 rfl) (many_row (row_cells (S147.get (k := 0) rfl)) (bel_cons (.of_flat0 rfl) (bel_cons (S147.oin (k := 1) rfl B136).bel bel_nil))) ?_
        refine DR.r rfl rfl (r_loadN (vs := [.int .i64 a0_0, .slice p_a0_1 a0_1.length c_a0_1]) rfl Try.isAgg32 Try.sizeOf32 rfl) (many_row (row_cells (S147.get (k := 3) rfl)) (bel_cons (.of_flat0 rfl) (bel_cons (S147.view v_a0_1).inn.bel bel_nil))) ?_
        obtain ⟨⟨x161, rs162⟩, h163, hd164⟩ := bnd_some hd160
        obtain ⟨_, G171, hc170, p165, c166, rfl, S172, B168, a169⟩ := W_laws_toSchedule fu G146 a0_0 p_a0_1 c_a0_1 a0_1 a_a0_1 (S147.view v_a0_1) x161 rs162 h163
        have S173 := S147.call S172
        refine DR.w rfl rfl (o_call (vs := [.agg [.int .i64 a0_0, .slice p_a0_1 a0_1.length c_a0_1].toArray]) rfl Try.call19 hc170) (S172.len) ?_
        obtain ⟨b174, h175, hd176⟩ := bnd_some hd164
        refine DR.w rfl rfl (o_call (vs := [.agg [.int .i64 x129, .slice p133 rs130.length c134].toArray, .agg [.int .i64 x161, .slice p165 rs162.length c166].toArray]) rfl Try.call21 (W_laws_eqSchedule fu G171 x129 p133 c134 rs130 a137 (S173.oview (k := 2) rfl B136 (flat_len1 a137 rfl)) x161 p165 c166 rs162 a169 (S173.oview (k := 0) rfl B168 (flat_len1 a169 rfl)) b174 h175)) (Nat.le_refl _) ?_
        refine DR.p rfl rfl (p_not rfl) ?_
        refine DR.nil 5 [(0, 2)] hst (by kernel_rfl) ⟨(rdN (fun h => S172.hold _ h)), trivial⟩ ?_
        refine AX.cond rfl (fun c178 => ?_) (fun c178 => ?_)
        · have hd179 := bif_t c178 hd176
          refine AX.seq ?_
          refine AX.region ?_
          refine AO.p rfl (p_assign rfl) ?_
          refine AO.nil ?_
          refine AX.ret ?_
          obtain rfl := some_inj hd179
          exact ⟨.inr rfl, _, res1 rfl (rv_tmp rfl), rfl, (flatB_ok rfl), S173.hold⟩
        · have hd180 := bif_f c178 hd176
          refine AX.skip ?_
          refine AX.seq ?_
          refine AX.region ?_
          refine AO.p rfl (p_assign rfl) ?_
          refine AO.nil ?_
          refine AX.ret ?_
          obtain rfl := some_inj hd180
          exact ⟨.inr rfl, _, res1 rfl (rv_tmp rfl), rfl, (flatB_ok rfl), S173.hold⟩

end Go.Proofs.Ytdafmafigcljkaa
