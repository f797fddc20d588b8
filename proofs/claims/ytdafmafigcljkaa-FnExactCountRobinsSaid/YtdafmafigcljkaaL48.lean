/-
  The statement FnExactCountRobins holds: whatever the arguments, the call returns true and leaves memory as it was. No condition.
-/
import Derived.Test.YtdafmafigcljkaaWRd
import Derived.Test.YtdafmafigcljkaaPuCR
import Derived.Test.YtdafmafigcljkaaK5
import Derived.Test.YtdafmafigcljkaaRows
import Derived.WalkKit
import Derived.ProofKit
import Derived.OpenShut
import Derived.ChangeOld
import Derived.Below
import Derived.SizedLaws
import Derived.RowKit3
namespace Go.Proofs.Ytdafmafigcljkaa.fnExactCountRobins
open Go Go.ChangeShapes Go.WideShapes Go.ChangeAt Go.RowKit Am
set_option linter.unusedVariables false
theorem own : ownKnob Try.prog.godebug = none := by kernel_rfl
theorem served : Try.f3.params.toList.all (fun t => plainT Try.prog 6 t && Try.prog.readableRec t && decide (t < Try.prog.types.size)) = true := by kernel_rfl
set_option maxRecDepth 100000 in
theorem called (H : AHeap) (avs : List Value) (hro : AllRo H) (h : argsOk Try.prog H 6 Try.f3.params.toList avs) : ∃ H', ACall Try.prog 3 avs H (.bool true) H' := by
  rw [show Try.f3.params.toList = [2] from rfl] at h
  obtain ⟨v0, _, rfl, a0, h⟩ := args_cons h
  obtain rfl := args_nil h
  obtain ⟨a0', rfl, k_a0⟩ := arg_int Try.underlying2 a0
  exact ⟨_, W_laws_FnExactCountRobins 64 H a0' true (countRobins_law a0')⟩
set_option maxRecDepth 100000 in
theorem lifted (os : Os) (started : os.Started) (H : Type) (enc : TypeId × Value → H) :
    ReturnsInHanded {} Try.checked os 3 .any (Rows.fnExactCountRobinsSpec.pre6 enc Try.prog Try.f3 Rows.fnExactCountRobinsRow.domain false) (Rows.fnExactCountRobinsSpec.post enc Try.prog Try.f3 false true false false) := by
  refine returnsInHanded_of_change_sized (C := Try.checked) own started (by kernel_rfl) Try.func3
    (ChangeSpec.witness6 (enc := enc) (C := Try.checked) false ⟨#[], #[.int .i64 0], []⟩ 8 (by kernel_rfl) (by kernel_rfl) (by kernel_rfl) (by kernel_rfl)) ?_
  intro W base args ds gs before hval0 hW hcnd hsz0 _
  refine law_post (k := 6) (tb := 4) trivial (by kernel_rfl) served rfl Try.underlying4 rfl (fun K ds h => ?_) called hval0 hW
  match ds, h with
  | [_], _ => exact ⟨rfl, rfl, rfl⟩
theorem over : Rows.fnExactCountRobinsRow.holds Try.pinned (OpenSpec.ofChange Rows.fnExactCountRobinsSpec) :=
  OpenClaim.holds_of_wide 3 Try.f3 rfl rfl rfl rfl rfl rfl rfl ⟨rfl, rfl, rfl, rfl, rfl⟩ rfl rfl rfl rfl rfl (by kernel_rfl) Try.func3 (by kernel_rfl)
    (of_decide_eq_true (by kernel_rfl)) (by unfold Func.isWrapper; first | (rw [if_pos (by decide +kernel)]; kernel_rfl) | (rw [if_neg (by decide +kernel)]; exact ⟨rfl, rfl⟩))
    (fun os started H enc _ => lifted os started H enc)
end Go.Proofs.Ytdafmafigcljkaa.fnExactCountRobins
namespace Go.Proofs.Ytdafmafigcljkaa
theorem fnExactCountRobins_holds : Rows.FnExactCountRobinsSaid := fnExactCountRobins.over
#print axioms fnExactCountRobins_holds
end Go.Proofs.Ytdafmafigcljkaa
