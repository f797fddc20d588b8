/-
  The statement FnExactJoinSchedules holds: whatever the arguments, the call returns true and leaves memory as it was. No condition.
-/
import Derived.Test.YtnmbjedijgcncaaWV
import Derived.Test.YtnmbjedijgcncaaPuJS
import Derived.Test.YtnmbjedijgcncaaK5
import Derived.Test.YtnmbjedijgcncaaRows
import Derived.WalkKit
import Derived.ProofKit
import Derived.OpenShut
import Derived.ChangeOld
import Derived.Below
import Derived.SizedLaws
import Derived.RowKit3
namespace Go.Proofs.Ytnmbjedijgcncaa.fnExactJoinSchedules
open Go Go.ChangeShapes Go.WideShapes Go.ChangeAt Go.RowKit Am
set_option linter.unusedVariables false
theorem own : ownKnob Try.prog.godebug = none := by kernel_rfl
theorem served : Try.f12.params.toList.all (fun t => plainT Try.prog 6 t && Try.prog.readableRec t && decide (t < Try.prog.types.size)) = true := by kernel_rfl
set_option maxRecDepth 100000 in
theorem called (H : AHeap) (avs : List Value) (hro : AllRo H) (h : argsOk Try.prog H 6 Try.f12.params.toList avs) : ∃ H', ACall Try.prog 12 avs H (.bool true) H' := by
  rw [show Try.f12.params.toList = [38, 38] from rfl] at h
  obtain ⟨v0, _, rfl, a0, h⟩ := args_cons h
  obtain ⟨v1, _, rfl, a1, h⟩ := args_cons h
  obtain rfl := args_nil h
  obtain ⟨x0, z0, rfl, b0, d0⟩ := arg_pair Try.underlying38 rfl rfl (by kernel_rfl) (by kernel_rfl) (by kernel_rfl) a0
  obtain ⟨a0_0, e0, k_a0_0⟩ := aok_int Try.underlying2 b0; cases e0
  obtain ⟨p_a0_1, c_a0_1, a0_1, rfl, h_a0_1, l_a0_1, v_a0_1, k_a0_1⟩ := open_rows Try.underlying36 Try.underlying22 Try.underlying2 (by kernel_rfl) (by kernel_rfl) d0
  obtain ⟨x1, z1, rfl, b1, d1⟩ := arg_pair Try.underlying38 rfl rfl (by kernel_rfl) (by kernel_rfl) (by kernel_rfl) a1
  obtain ⟨a1_0, e1, k_a1_0⟩ := aok_int Try.underlying2 b1; cases e1
  obtain ⟨p_a1_1, c_a1_1, a1_1, rfl, h_a1_1, l_a1_1, v_a1_1, k_a1_1⟩ := open_rows Try.underlying36 Try.underlying22 Try.underlying2 (by kernel_rfl) (by kernel_rfl) d1
  exact ⟨_, W_laws_FnExactJoinSchedules 8589934593 H a0_0 p_a0_1 c_a0_1 a0_1 h_a0_1 v_a0_1 a1_0 p_a1_1 c_a1_1 a1_1 h_a1_1 v_a1_1 true (join_law (by unfold Big; omega) a0_0 h_a0_1 (by omega) a1_0 h_a1_1 (by omega))⟩
set_option maxRecDepth 100000 in
theorem lifted (os : Os) (started : os.Started) (H : Type) (enc : TypeId × Value → H) :
    ReturnsInHanded {} Try.checked os 12 .any (Rows.fnExactJoinSchedulesSpec.pre6 enc Try.prog Try.f12 Rows.fnExactJoinSchedulesRow.domain false) (Rows.fnExactJoinSchedulesSpec.post enc Try.prog Try.f12 false true false false) := by
  refine returnsInHanded_of_change_sized (C := Try.checked) own started (by kernel_rfl) Try.func12
    (ChangeSpec.witness6 (enc := enc) (C := Try.checked) false ⟨#[], #[.agg #[.int .i64 0, .slice none 0 0], .agg #[.int .i64 0, .slice none 0 0]], []⟩ 8 (by kernel_rfl) (by kernel_rfl) (by kernel_rfl) (by kernel_rfl)) ?_
  intro W base args ds gs before hval0 hW hcnd hsz0 _
  refine law_post (k := 6) (tb := 4) (by kernel_rfl) served rfl Try.underlying4 rfl (fun K ds h => ?_) called hval0 hW
  match ds, h with
  | [_, _], _ => exact ⟨rfl, rfl, rfl⟩
theorem over : Rows.fnExactJoinSchedulesRow.holds Try.pinned (OpenSpec.ofChange Rows.fnExactJoinSchedulesSpec) :=
  OpenClaim.holds_of_wide 12 Try.f12 rfl rfl rfl rfl rfl rfl rfl ⟨rfl, rfl, rfl, rfl, rfl⟩ rfl rfl rfl rfl rfl (by kernel_rfl) Try.func12 (by kernel_rfl)
    (of_decide_eq_true (by kernel_rfl)) (by unfold Func.isWrapper; first | (rw [if_pos (by decide +kernel)]; kernel_rfl) | (rw [if_neg (by decide +kernel)]; exact ⟨rfl, rfl⟩))
    (fun os started H enc _ => lifted os started H enc)
end Go.Proofs.Ytnmbjedijgcncaa.fnExactJoinSchedules
namespace Go.Proofs.Ytnmbjedijgcncaa
theorem fnExactJoinSchedules_holds : Rows.FnExactJoinSchedulesSaid := fnExactJoinSchedules.over
#print axioms fnExactJoinSchedules_holds
end Go.Proofs.Ytnmbjedijgcncaa
