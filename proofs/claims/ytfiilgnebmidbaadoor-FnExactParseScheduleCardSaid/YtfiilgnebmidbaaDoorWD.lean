/-
  The program computes that, printed by a program. No condition.
-/
import Derived.Test.YtfiilgnebmidbaaDoorDD
import Derived.Test.YtfiilgnebmidbaaDoorWB
import Derived.Test.YtfiilgnebmidbaaDoorWStr
import Derived.Test.YtfiilgnebmidbaaDoorProg
import Derived.KernelRfl
namespace Go.Proofs.YtfiilgnebmidbaaDoor
open Go Go.RowKit Am
set_option linter.unusedVariables false
set_option linter.unusedSimpArgs false
set_option maxRecDepth 20000
set_option maxHeartbeats 4000000 in
theorem W_spec_l01Dec : ∀ (fu : Nat) (H : AHeap) (a0 : Int) (r0 : ByteArray) (hd : D_spec_l01Dec fu a0 = some r0), ACall Tryd.prog 56 [.int .i64 a0] H (.string r0) H := by
  intro fu
  induction fu with
  | zero => intros; rename_i hd; cases hd
  | succ fu ih =>
  intro H a0 r0 hd
  refine ACall.bodyP (N := 26) [(0, .int .i64 a0)] Tryd.func56 rfl rfl rfl rfl ?_
  unfold D_spec_l01Dec at hd
  have S0 : St [] H H [] := St.nil H
  refine AX.seq ?_
  refine AX.region ?_
  refine AO.p rfl (p_assign rfl) ?_
  refine AO.nil ?_
  refine AX.seq ?_
  refine AX.seq ?_
  refine AX.region ?_
  refine AO.p rfl (p_move rfl) ?_
  refine AO.p rfl (p_lss rfl rfl) ?_
  refine AO.nil ?_
  refine AX.cond rfl (fun c100 => ?_) (fun c100 => ?_)
  · have hd101 := bif_t c100 hd
    refine AX.seq ?_
    refine AX.region ?_
    refine AO.p rfl (p_move rfl) ?_
    obtain ⟨k102, hd103⟩ := chk_some hd101
    refine AO.p rfl (p_negE rfl k102) ?_
    obtain ⟨s104, h105, hd106⟩ := bnd_some hd103
    refine AO.c rfl (o_call (vs := [.int .i64 (0 - a0)]) rfl Tryd.call56 (ih H (0 - a0) s104 h105)) ?_
    obtain ⟨k108, hd109⟩ := chk_some hd106
    refine AO.p rfl (p_addS rfl rfl k108) ?_
    refine AO.p rfl (p_assign rfl) ?_
    refine AO.nil ?_
    refine AX.ret ?_
    obtain rfl := some_inj hd109
    exact ⟨.inr rfl, _, res1 rfl (rv_tmp rfl), rfl, (flatB_ok rfl), S0.hold⟩
  · have hd110 := bif_f c100 hd
    refine AX.skip ?_
    refine AX.seq ?_
    refine AX.seq ?_
    refine AX.region ?_
    refine AO.p rfl (p_move rfl) ?_
    refine AO.p rfl (p_lss rfl rfl) ?_
    refine AO.nil ?_
    refine AX.cond rfl (fun c111 => ?_) (fun c111 => ?_)
    · have hd112 := bif_t c111 hd110
      refine AX.seq ?_
      refine AX.region ?_
      refine AO.p rfl (p_move rfl) ?_
      obtain ⟨k113, hd114⟩ := chk_some hd112
      refine AO.p rfl (p_addE rfl rfl k113) ?_
      obtain ⟨k115, hd116⟩ := chk_some hd114
      refine AO.p rfl (p_convU Tryd.underlying2 Tryd.underlying5 rfl k115) ?_
      obtain ⟨G117, i118, hii118, hHG117, S119⟩ := S0.new (AObj.row false ([.int .u8 (48 + a0)]))
      refine AO.c rfl (s_buildZ (i := i118) (vs := [(0, .int .u8 (48 + a0))]) (cs := [.int .u8 (48 + a0)]) Tryd.underlying108 Tryd.sizeOf5 Tryd.zeroValue5 rfl rfl rfl (by decide) rfl rfl hii118 hHG117) ?_
      refine AO.c rfl (s_convBS Tryd.underlying108 Tryd.underlying5 Tryd.underlying9 rfl (row_cell (S119.get (k := 0) rfl) rfl)) ?_
      refine AO.p rfl (p_assign rfl) ?_
      refine AO.nil ?_
      refine AX.ret ?_
      obtain rfl := some_inj hd116
      exact ⟨.inr rfl, _, res1 rfl (rv_tmp rfl), rfl, (flatB_ok rfl), S119.hold⟩
    · have hd121 := bif_f c111 hd110
      refine AX.skip ?_
      refine AX.seq ?_
      refine DR.startS [false, false, true, false, false, false, false, false, false, false, false] mix (by kernel_rfl) (fun hst => ?_)
      refine DR.p rfl rfl (p_move rfl) ?_
      obtain ⟨k122, hd123⟩ := chk_some hd121
      refine DR.p rfl rfl (p_quoE rfl rfl k122) ?_
      obtain ⟨s124, h125, hd126⟩ := bnd_some hd123
      refine DR.w rfl rfl (o_call (vs := [.int .i64 (a0.tdiv 10)]) rfl Tryd.call56 (ih H (a0.tdiv 10) s124 h125)) (Nat.le_refl _) ?_
      refine DR.p rfl rfl (p_move rfl) ?_
      refine DR.p rfl rfl (p_remE rfl rfl (by decide)) ?_
      obtain ⟨k128, hd129⟩ := chk_some hd126
      refine DR.p rfl rfl (p_addE rfl rfl k128) ?_
      obtain ⟨k130, hd131⟩ := chk_some hd129
      refine DR.p rfl rfl (p_convU Tryd.underlying2 Tryd.underlying5 rfl k130) ?_
      obtain ⟨G132, i133, hii133, hHG132, S134⟩ := S0.new (AObj.row false ([.int .u8 (48 + (a0.tmod 10))]))
      refine DR.a rfl rfl hii133 hHG132 (a_buildZ (vs := [(0, .int .u8 (48 + (a0.tmod 10)))]) (cs := [.int .u8 (48 + (a0.tmod 10))]) Tryd.underlying108 Tryd.sizeOf5 Tryd.zeroValue5 rfl rfl rfl (by decide) rfl rfl) ?_
      refine DR.r rfl rfl (r_convBS rfl Tryd.underlying108 Tryd.underlying5 Tryd.underlying9) (one_read (row_cell (S134.get (k := 0) rfl) rfl) (.of_flat0 rfl)) ?_
      obtain ⟨k136, hd137⟩ := chk_some hd131
      refine DR.p rfl rfl (p_addS rfl rfl k136) ?_
      refine DR.p rfl rfl (p_assign rfl) ?_
      refine DR.nil 11 [(7, 2), (8, 2)] hst (by kernel_rfl) ⟨(fun h => absurd h (by decide)), (rd1 (fun _ => rfl)), trivial⟩ ?_
      refine AX.ret ?_
      obtain rfl := some_inj hd137
      exact ⟨.inr rfl, _, res1 rfl (rv_tmp rfl), rfl, (flatB_ok rfl), S134.hold⟩

set_option maxHeartbeats 4000000 in
theorem W_impl_decimal (fu : Nat) (H : AHeap) (a0 : Int) (r0 : ByteArray) (hd : D_impl_decimal fu a0 = some r0) : ACall Tryd.prog 65 [.int .i64 a0] H (.string r0) H := by
  refine ACall.bodyP (N := 5) [(0, .int .i64 a0)] Tryd.func65 rfl rfl rfl rfl ?_
  unfold D_impl_decimal at hd
  have S0 : St [] H H [] := St.nil H
  refine AX.seq ?_
  refine AX.region ?_
  refine AO.p rfl (p_assign rfl) ?_
  refine AO.nil ?_
  refine AX.seq ?_
  refine AX.region ?_
  refine AO.p rfl (p_move rfl) ?_
  obtain ⟨s100, h101, hd102⟩ := bnd_some hd
  refine AO.c rfl (o_call (vs := [.int .i64 a0, .int .i64 10]) rfl Tryd.call87 (W_strconv_FormatInt fu H a0 10 s100 h101)) ?_
  refine AO.p rfl (p_assign rfl) ?_
  refine AO.nil ?_
  refine AX.ret ?_
  obtain rfl := some_inj hd102
  exact ⟨.inr rfl, _, res1 rfl (rv_tmp rfl), rfl, (flatB_ok rfl), S0.hold⟩

end Go.Proofs.YtfiilgnebmidbaaDoor
