/-
  The statement FnExactAreOpposite holds: whatever the arguments, the call returns true and leaves memory as it was. No condition.
-/
import Derived.Test.YtpaaoafgahbokaaWY
import Derived.Test.YtpaaoafgahbokaaPuQ
import Derived.Test.YtpaaoafgahbokaaK5
import Derived.Test.YtpaaoafgahbokaaRows
import Derived.WalkKit
import Derived.ProofKit
import Derived.OpenShut
import Derived.ChangeOld
import Derived.Below
import Derived.SizedLaws
import Derived.RowKit3
namespace Go.Proofs.Ytpaaoafgahbokaa.fnExactAreOpposite
open Go Go.ChangeShapes Go.WideShapes Go.ChangeAt Go.RowKit Am
set_option linter.unusedVariables false
theorem own : ownKnob Try.prog.godebug = none := by kernel_rfl
theorem served : Try.f10.params.toList.all (fun t => plainT Try.prog 6 t && Try.prog.readableRec t && decide (t < Try.prog.types.size)) = true := by kernel_rfl
set_option maxRecDepth 100000 in
theorem called (H : AHeap) (avs : List Value) (hro : AllRo H) (h : argsOk Try.prog H 6 Try.f10.params.toList avs) : ∃ H', ACall Try.prog 10 avs H (.bool true) H' := by
  rw [show Try.f10.params.toList = [35, 22, 2, 2] from rfl] at h
  obtain ⟨v0, _, rfl, a0, h⟩ := args_cons h
  obtain ⟨v1, _, rfl, a1, h⟩ := args_cons h
  obtain ⟨v2, _, rfl, a2, h⟩ := args_cons h
  obtain ⟨v3, _, rfl, a3, h⟩ := args_cons h
  obtain rfl := args_nil h
  obtain ⟨x0, z0, rfl, b0, d0⟩ := arg_pair Try.underlying35 rfl rfl (by kernel_rfl) (by kernel_rfl) (by kernel_rfl) a0
  obtain ⟨a0_0, e0, k_a0_0⟩ := aok_int Try.underlying2 b0; cases e0
  obtain ⟨p_a0_1, c_a0_1, a0_1, rfl, h_a0_1, l_a0_1, v_a0_1, k_a0_1⟩ := open_rows Try.underlying33 Try.underlying63 Try.underlying2 (by kernel_rfl) (by kernel_rfl) d0
  obtain ⟨p_a1', c_a1', T_a1', a1', rfl, t_a1', v_a1', w_a1', l_a1', k_a1'⟩ := open_tab Try.underlying22 Try.underlying68 Try.underlying2 (by kernel_rfl) (by kernel_rfl) (arg_slice Try.underlying22 a1)
  obtain ⟨a2', rfl, k_a2⟩ := arg_int Try.underlying2 a2
  obtain ⟨a3', rfl, k_a3⟩ := arg_int Try.underlying2 a3
  exact ⟨_, W_laws_FnExactAreOpposite 8589934593 H a0_0 p_a0_1 c_a0_1 a0_1 h_a0_1 v_a0_1 p_a1' c_a1' T_a1' a1' t_a1' v_a1' w_a1' a2' a3' true (opp_law (by unfold Big; omega) a0_0 h_a0_1 (by omega) (by omega) (fun r hr => (k_a1' r hr).1) a2' a3')⟩
set_option maxRecDepth 100000 in
theorem lifted (os : Os) (started : os.Started) (H : Type) (enc : TypeId × Value → H) :
    ReturnsInHanded {} Try.checked os 10 .any (Rows.fnExactAreOppositeSpec.pre6 enc Try.prog Try.f10 Rows.fnExactAreOppositeRow.domain false) (Rows.fnExactAreOppositeSpec.post enc Try.prog Try.f10 false true false false) := by
  refine returnsInHanded_of_change_sized (C := Try.checked) own started (by kernel_rfl) Try.func10
    (ChangeSpec.witness6 (enc := enc) (C := Try.checked) false ⟨#[], #[.agg #[.int .i64 0, .slice none 0 0], .slice none 0 0, .int .i64 0, .int .i64 0], []⟩ 8 (by kernel_rfl) (by kernel_rfl) (by kernel_rfl) (by kernel_rfl)) ?_
  intro W base args ds gs before hval0 hW hcnd hsz0 _
  refine law_post (k := 6) (tb := 4) (by kernel_rfl) served rfl Try.underlying4 rfl (fun K ds h => ?_) called hval0 hW
  match ds, h with
  | [_, _, _, _], _ => exact ⟨rfl, rfl, rfl⟩
theorem over : Rows.fnExactAreOppositeRow.holds Try.pinned (OpenSpec.ofChange Rows.fnExactAreOppositeSpec) :=
  OpenClaim.holds_of_wide 10 Try.f10 rfl rfl rfl rfl rfl rfl rfl ⟨rfl, rfl, rfl, rfl, rfl⟩ rfl rfl rfl rfl rfl (by kernel_rfl) Try.func10 (by kernel_rfl)
    (of_decide_eq_true (by kernel_rfl)) (by unfold Func.isWrapper; first | (rw [if_pos (by decide +kernel)]; kernel_rfl) | (rw [if_neg (by decide +kernel)]; exact ⟨rfl, rfl⟩))
    (fun os started H enc _ => lifted os started H enc)
end Go.Proofs.Ytpaaoafgahbokaa.fnExactAreOpposite
namespace Go.Proofs.Ytpaaoafgahbokaa
theorem fnExactAreOpposite_holds : Rows.FnExactAreOppositeSaid := fnExactAreOpposite.over
#print axioms fnExactAreOpposite_holds
end Go.Proofs.Ytpaaoafgahbokaa
