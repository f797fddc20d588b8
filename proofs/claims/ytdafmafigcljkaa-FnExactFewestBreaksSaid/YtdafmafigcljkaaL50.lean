/-
  The statement FnExactFewestBreaks holds: whatever the arguments, the call returns true and leaves memory as it was. No condition.
-/
import Derived.Test.YtdafmafigcljkaaWFd
import Derived.Test.YtdafmafigcljkaaPuFE
import Derived.Test.YtdafmafigcljkaaK5
import Derived.Test.YtdafmafigcljkaaRows
import Derived.WalkKit
import Derived.ProofKit
import Derived.OpenShut
import Derived.ChangeOld
import Derived.Below
import Derived.SizedLaws
import Derived.RowKit3
namespace Go.Proofs.Ytdafmafigcljkaa.fnExactFewestBreaks
open Go Go.ChangeShapes Go.WideShapes Go.ChangeAt Go.RowKit Am
set_option linter.unusedVariables false
theorem own : ownKnob Try.prog.godebug = none := by kernel_rfl
theorem served : Try.f5.params.toList.all (fun t => plainT Try.prog 6 t && Try.prog.readableRec t && decide (t < Try.prog.types.size)) = true := by kernel_rfl
set_option maxRecDepth 100000 in
theorem called (H : AHeap) (avs : List Value) (hro : AllRo H) (h : argsOk Try.prog H 6 Try.f5.params.toList avs) : ∃ H', ACall Try.prog 5 avs H (.bool true) H' := by
  rw [show Try.f5.params.toList = [32] from rfl] at h
  obtain ⟨v0, _, rfl, a0, h⟩ := args_cons h
  obtain rfl := args_nil h
  obtain ⟨x0, z0, rfl, b0, d0⟩ := arg_pair Try.underlying32 rfl rfl (by kernel_rfl) (by kernel_rfl) (by kernel_rfl) a0
  obtain ⟨a0_0, e0, k_a0_0⟩ := aok_int Try.underlying2 b0; cases e0
  obtain ⟨p_a0_1, c_a0_1, a0_1, rfl, h_a0_1, l_a0_1, v_a0_1, k_a0_1⟩ := open_rows Try.underlying30 Try.underlying53 Try.underlying2 (by kernel_rfl) (by kernel_rfl) d0
  exact ⟨_, W_laws_FnExactFewestBreaks 8589934593 H a0_0 p_a0_1 c_a0_1 a0_1 h_a0_1 v_a0_1 true (fewest_law (by unfold Big; omega) a0_0 h_a0_1 (by omega))⟩
set_option maxRecDepth 100000 in
theorem lifted (os : Os) (started : os.Started) (H : Type) (enc : TypeId × Value → H) :
    ReturnsInHanded {} Try.checked os 5 .any (Rows.fnExactFewestBreaksSpec.pre6 enc Try.prog Try.f5 Rows.fnExactFewestBreaksRow.domain false) (Rows.fnExactFewestBreaksSpec.post enc Try.prog Try.f5 false true false false) := by
  refine returnsInHanded_of_change_sized (C := Try.checked) own started (by kernel_rfl) Try.func5
    (ChangeSpec.witness6 (enc := enc) (C := Try.checked) false ⟨#[], #[.agg #[.int .i64 0, .slice none 0 0]], []⟩ 8 (by kernel_rfl) (by kernel_rfl) (by kernel_rfl) (by kernel_rfl)) ?_
  intro W base args ds gs before hval0 hW hcnd hsz0 _
  refine law_post (k := 6) (tb := 4) trivial (by kernel_rfl) served rfl Try.underlying4 rfl (fun K ds h => ?_) called hval0 hW
  match ds, h with
  | [_], _ => exact ⟨rfl, rfl, rfl⟩
theorem over : Rows.fnExactFewestBreaksRow.holds Try.pinned (OpenSpec.ofChange Rows.fnExactFewestBreaksSpec) :=
  OpenClaim.holds_of_wide 5 Try.f5 rfl rfl rfl rfl rfl rfl rfl ⟨rfl, rfl, rfl, rfl, rfl⟩ rfl rfl rfl rfl rfl (by kernel_rfl) Try.func5 (by kernel_rfl)
    (of_decide_eq_true (by kernel_rfl)) (by unfold Func.isWrapper; first | (rw [if_pos (by decide +kernel)]; kernel_rfl) | (rw [if_neg (by decide +kernel)]; exact ⟨rfl, rfl⟩))
    (fun os started H enc _ => lifted os started H enc)
end Go.Proofs.Ytdafmafigcljkaa.fnExactFewestBreaks
namespace Go.Proofs.Ytdafmafigcljkaa
theorem fnExactFewestBreaks_holds : Rows.FnExactFewestBreaksSaid := fnExactFewestBreaks.over
#print axioms fnExactFewestBreaks_holds
end Go.Proofs.Ytdafmafigcljkaa
