/-
  The program computes that, printed by a program. No condition.
-/
import Derived.Test.YtdafmafigcljkaaDX
import Derived.Test.YtdafmafigcljkaaWC
import Derived.Test.YtdafmafigcljkaaWE
import Derived.Test.YtdafmafigcljkaaProg
import Derived.KernelRfl
namespace Go.Proofs.Ytdafmafigcljkaa
open Go Go.RowKit Am
set_option linter.unusedVariables false
set_option linter.unusedSimpArgs false
set_option maxRecDepth 20000
set_option maxHeartbeats 4000000 in
theorem W_laws_FnExactCountStarters (fu : Nat) (H : AHeap) (a0 : Int) (r0 : Bool) (hd : D_laws_FnExactCountStarters fu a0 = some r0) : ACall Try.prog 6 [.int .i64 a0] H (.bool r0) H := by
  refine ACall.bodyP (N := 43) [(0, .int .i64 a0)] Try.func6 rfl rfl rfl rfl ?_
  unfold D_laws_FnExactCountStarters at hd
  have S0 : St [] H H [] := St.nil H
  refine AX.seq ?_
  refine AX.region ?_
  refine AO.p rfl (p_assign rfl) ?_
  refine AO.nil ?_
  refine AX.seq ?_
  refine AX.region ?_
  refine AO.p rfl (p_move rfl) ?_
  obtain ⟨⟨x100, x101, x102, x103⟩, h104, hd105⟩ := bnd_some hd
  refine AO.c rfl (o_call (vs := [.int .i64 a0]) rfl Try.call22 (W_spec_CountStarters fu H a0 x100 x101 x102 x103 h104)) ?_
  refine AO.p rfl (p_move rfl) ?_
  refine AO.p rfl (p_extract rfl rfl) ?_
  refine AO.p rfl (p_extract rfl rfl) ?_
  refine AO.p rfl (p_extract rfl rfl) ?_
  refine AO.p rfl (p_extract rfl rfl) ?_
  refine AO.p rfl (p_assign rfl) ?_
  refine AO.p rfl (p_assign rfl) ?_
  refine AO.p rfl (p_assign rfl) ?_
  refine AO.p rfl (p_assign rfl) ?_
  refine AO.nil ?_
  refine AX.seq ?_
  refine AX.region ?_
  refine AO.p rfl (p_move rfl) ?_
  obtain ⟨⟨x107, x108, x109, x110⟩, h111, hd112⟩ := bnd_some hd105
  refine AO.c rfl (o_call (vs := [.int .i64 a0]) rfl Try.call23 (W_impl_CountStarters fu H a0 x107 x108 x109 x110 h111)) ?_
  refine AO.p rfl (p_move rfl) ?_
  refine AO.p rfl (p_extract rfl rfl) ?_
  refine AO.p rfl (p_extract rfl rfl) ?_
  refine AO.p rfl (p_extract rfl rfl) ?_
  refine AO.p rfl (p_extract rfl rfl) ?_
  refine AO.p rfl (p_assign rfl) ?_
  refine AO.p rfl (p_assign rfl) ?_
  refine AO.p rfl (p_assign rfl) ?_
  refine AO.p rfl (p_assign rfl) ?_
  refine AO.nil ?_
  refine AX.seq ?_
  refine AX.cut (fun t' H' => H = H' ∧ Am.Sub [(42, .bool ((!decide (x107 = x100)) || ((!decide (x108 = x101)) || ((!decide (x109 = x102)) || (!decide (x110 = x103))))))] t') ?_ ?_
  · skip
    refine AX.region ?_
    refine AO.p rfl (p_move rfl) ?_
    refine AO.p rfl (p_move rfl) ?_
    refine AO.p rfl (p_neq rfl rfl) ?_
    refine AO.p rfl (p_move rfl) ?_
    refine AO.cases (d := 28) rfl (fun c123 => ?_) (fun c123 => ?_)
    · skip
      refine AO.gn rfl rfl rfl ?_
      refine AO.gn rfl rfl rfl ?_
      refine AO.gn rfl rfl rfl ?_
      refine AO.p rfl (p_pickT rfl rfl) ?_
      refine AO.p rfl (p_move rfl) ?_
      refine AO.gn rfl rfl rfl ?_
      refine AO.gn rfl rfl rfl ?_
      refine AO.gn rfl rfl rfl ?_
      refine AO.p rfl (p_pickT rfl rfl) ?_
      refine AO.p rfl (p_move rfl) ?_
      refine AO.gn rfl rfl rfl ?_
      refine AO.gn rfl rfl rfl ?_
      refine AO.gn rfl rfl rfl ?_
      refine AO.p rfl (p_pickT rfl rfl) ?_
      refine AO.nil ?_
      exact ⟨rfl, Sub.cons' rfl (bool_eq (by simp only [c123, Bool.true_and, Bool.false_and, Bool.and_true, Bool.and_false, Bool.true_or, Bool.false_or, Bool.or_true, Bool.or_false, Bool.not_true, Bool.not_false, cond_true, cond_false])) (Sub.nil _)⟩
    · skip
      refine AO.gp rfl rfl rfl (p_move rfl) ?_
      refine AO.gp rfl rfl rfl (p_move rfl) ?_
      refine AO.gp rfl rfl rfl (p_neq rfl rfl) ?_
      refine AO.p rfl (p_pickF rfl rfl) ?_
      refine AO.p rfl (p_move rfl) ?_
      refine AO.cases (d := 33) rfl (fun c124 => ?_) (fun c124 => ?_)
      · skip
        refine AO.gn rfl rfl rfl ?_
        refine AO.gn rfl rfl rfl ?_
        refine AO.gn rfl rfl rfl ?_
        refine AO.p rfl (p_pickT rfl rfl) ?_
        refine AO.p rfl (p_move rfl) ?_
        refine AO.gn rfl rfl rfl ?_
        refine AO.gn rfl rfl rfl ?_
        refine AO.gn rfl rfl rfl ?_
        refine AO.p rfl (p_pickT rfl rfl) ?_
        refine AO.nil ?_
        exact ⟨rfl, Sub.cons' rfl (bool_eq (by simp only [c123, c124, Bool.true_and, Bool.false_and, Bool.and_true, Bool.and_false, Bool.true_or, Bool.false_or, Bool.or_true, Bool.or_false, Bool.not_true, Bool.not_false, cond_true, cond_false])) (Sub.nil _)⟩
      · skip
        refine AO.gp rfl rfl rfl (p_move rfl) ?_
        refine AO.gp rfl rfl rfl (p_move rfl) ?_
        refine AO.gp rfl rfl rfl (p_neq rfl rfl) ?_
        refine AO.p rfl (p_pickF rfl rfl) ?_
        refine AO.p rfl (p_move rfl) ?_
        refine AO.cases (d := 38) rfl (fun c125 => ?_) (fun c125 => ?_)
        · skip
          refine AO.gn rfl rfl rfl ?_
          refine AO.gn rfl rfl rfl ?_
          refine AO.gn rfl rfl rfl ?_
          refine AO.p rfl (p_pickT rfl rfl) ?_
          refine AO.nil ?_
          exact ⟨rfl, Sub.cons' rfl (bool_eq (by simp only [c123, c124, c125, Bool.true_and, Bool.false_and, Bool.and_true, Bool.and_false, Bool.true_or, Bool.false_or, Bool.or_true, Bool.or_false, Bool.not_true, Bool.not_false, cond_true, cond_false])) (Sub.nil _)⟩
        · skip
          refine AO.gp rfl rfl rfl (p_move rfl) ?_
          refine AO.gp rfl rfl rfl (p_move rfl) ?_
          refine AO.gp rfl rfl rfl (p_neq rfl rfl) ?_
          refine AO.p rfl (p_pickF rfl rfl) ?_
          refine AO.nil ?_
          exact ⟨rfl, Sub.cons' rfl (bool_eq (by simp only [c123, c124, c125, Bool.true_and, Bool.false_and, Bool.and_true, Bool.and_false, Bool.true_or, Bool.false_or, Bool.or_true, Bool.or_false, Bool.not_true, Bool.not_false, cond_true, cond_false])) (Sub.nil _)⟩
  · rintro t' _ ⟨rfl, hsub126⟩
    refine AX.sub hsub126 ?_
    refine AX.cond rfl (fun c127 => ?_) (fun c127 => ?_)
    · have hd128 := bif_t c127 hd112
      refine AX.seq ?_
      refine AX.region ?_
      refine AO.p rfl (p_assign rfl) ?_
      refine AO.nil ?_
      refine AX.ret ?_
      obtain rfl := some_inj hd128
      exact ⟨.inr rfl, _, res1 rfl (rv_tmp rfl), rfl, (flatB_ok rfl), S0.hold⟩
    · have hd129 := bif_f c127 hd112
      refine AX.skip ?_
      refine AX.seq ?_
      refine AX.region ?_
      refine AO.p rfl (p_assign rfl) ?_
      refine AO.nil ?_
      refine AX.ret ?_
      obtain rfl := some_inj hd129
      exact ⟨.inr rfl, _, res1 rfl (rv_tmp rfl), rfl, (flatB_ok rfl), S0.hold⟩

end Go.Proofs.Ytdafmafigcljkaa
