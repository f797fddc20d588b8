/-
  The program computes that, printed by a program. No condition.
-/
import Derived.Test.YtdafmafigcljkaaDRd
import Derived.Test.YtdafmafigcljkaaWRb
import Derived.Test.YtdafmafigcljkaaWRc
import Derived.Test.YtdafmafigcljkaaProg
import Derived.KernelRfl
namespace Go.Proofs.Ytdafmafigcljkaa
open Go Go.RowKit Am
set_option linter.unusedVariables false
set_option linter.unusedSimpArgs false
set_option maxRecDepth 20000
set_option maxHeartbeats 4000000 in
theorem W_laws_FnExactCountRobins (fu : Nat) (H : AHeap) (a0 : Int) (r0 : Bool) (hd : D_laws_FnExactCountRobins fu a0 = some r0) : ACall Try.prog 3 [.int .i64 a0] H (.bool r0) H := by
  refine ACall.bodyP (N := 25) [(0, .int .i64 a0)] Try.func3 rfl rfl rfl rfl ?_
  unfold D_laws_FnExactCountRobins at hd
  have S0 : St [] H H [] := St.nil H
  refine AX.seq ?_
  refine AX.region ?_
  refine AO.p rfl (p_assign rfl) ?_
  refine AO.nil ?_
  refine AX.seq ?_
  refine AX.region ?_
  refine AO.p rfl (p_move rfl) ?_
  obtain ⟨⟨x100, x101⟩, h102, hd103⟩ := bnd_some hd
  refine AO.c rfl (o_call (vs := [.int .i64 a0]) rfl Try.call10 (W_spec_CountRobins fu H a0 x100 x101 h102)) ?_
  refine AO.p rfl (p_move rfl) ?_
  refine AO.p rfl (p_extract rfl rfl) ?_
  refine AO.p rfl (p_extract rfl rfl) ?_
  refine AO.p rfl (p_assign rfl) ?_
  refine AO.p rfl (p_assign rfl) ?_
  refine AO.nil ?_
  refine AX.seq ?_
  refine AX.region ?_
  refine AO.p rfl (p_move rfl) ?_
  obtain ⟨⟨x105, x106⟩, h107, hd108⟩ := bnd_some hd103
  refine AO.c rfl (o_call (vs := [.int .i64 a0]) rfl Try.call11 (W_impl_CountRobins fu H a0 x105 x106 h107)) ?_
  refine AO.p rfl (p_move rfl) ?_
  refine AO.p rfl (p_extract rfl rfl) ?_
  refine AO.p rfl (p_extract rfl rfl) ?_
  refine AO.p rfl (p_assign rfl) ?_
  refine AO.p rfl (p_assign rfl) ?_
  refine AO.nil ?_
  refine AX.seq ?_
  refine AX.cut (fun t' H' => H = H' ∧ Am.Sub [(24, .bool ((!decide (x105 = x100)) || (!decide (x106 = x101))))] t') ?_ ?_
  · skip
    refine AX.region ?_
    refine AO.p rfl (p_move rfl) ?_
    refine AO.p rfl (p_move rfl) ?_
    refine AO.p rfl (p_neq rfl rfl) ?_
    refine AO.p rfl (p_move rfl) ?_
    refine AO.cases (d := 20) rfl (fun c113 => ?_) (fun c113 => ?_)
    · skip
      refine AO.gn rfl rfl rfl ?_
      refine AO.gn rfl rfl rfl ?_
      refine AO.gn rfl rfl rfl ?_
      refine AO.p rfl (p_pickT rfl rfl) ?_
      refine AO.nil ?_
      exact ⟨rfl, Sub.cons' rfl (bool_eq (by simp only [c113, Bool.true_and, Bool.false_and, Bool.and_true, Bool.and_false, Bool.true_or, Bool.false_or, Bool.or_true, Bool.or_false, Bool.not_true, Bool.not_false, cond_true, cond_false])) (Sub.nil _)⟩
    · skip
      refine AO.gp rfl rfl rfl (p_move rfl) ?_
      refine AO.gp rfl rfl rfl (p_move rfl) ?_
      refine AO.gp rfl rfl rfl (p_neq rfl rfl) ?_
      refine AO.p rfl (p_pickF rfl rfl) ?_
      refine AO.nil ?_
      exact ⟨rfl, Sub.cons' rfl (bool_eq (by simp only [c113, Bool.true_and, Bool.false_and, Bool.and_true, Bool.and_false, Bool.true_or, Bool.false_or, Bool.or_true, Bool.or_false, Bool.not_true, Bool.not_false, cond_true, cond_false])) (Sub.nil _)⟩
  · rintro t' _ ⟨rfl, hsub114⟩
    refine AX.sub hsub114 ?_
    refine AX.cond rfl (fun c115 => ?_) (fun c115 => ?_)
    · have hd116 := bif_t c115 hd108
      refine AX.seq ?_
      refine AX.region ?_
      refine AO.p rfl (p_assign rfl) ?_
      refine AO.nil ?_
      refine AX.ret ?_
      obtain rfl := some_inj hd116
      exact ⟨.inr rfl, _, res1 rfl (rv_tmp rfl), rfl, (flatB_ok rfl), S0.hold⟩
    · have hd117 := bif_f c115 hd108
      refine AX.skip ?_
      refine AX.seq ?_
      refine AX.region ?_
      refine AO.p rfl (p_assign rfl) ?_
      refine AO.nil ?_
      refine AX.ret ?_
      obtain rfl := some_inj hd117
      exact ⟨.inr rfl, _, res1 rfl (rv_tmp rfl), rfl, (flatB_ok rfl), S0.hold⟩

end Go.Proofs.Ytdafmafigcljkaa
