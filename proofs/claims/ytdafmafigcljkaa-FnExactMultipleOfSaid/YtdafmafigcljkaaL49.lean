/-
  The statement FnExactMultipleOf holds: whatever the arguments, the call returns true and leaves memory as it was. No condition.
-/
import Derived.Test.YtdafmafigcljkaaWMe
import Derived.Test.YtdafmafigcljkaaPuMO
import Derived.Test.YtdafmafigcljkaaK5
import Derived.Test.YtdafmafigcljkaaRows
import Derived.WalkKit
import Derived.ProofKit
import Derived.OpenShut
import Derived.ChangeOld
import Derived.Below
import Derived.SizedLaws
import Derived.RowKit3
namespace Go.Proofs.Ytdafmafigcljkaa.fnExactMultipleOf
open Go Go.ChangeShapes Go.WideShapes Go.ChangeAt Go.RowKit Am
set_option linter.unusedVariables false
theorem own : ownKnob Try.prog.godebug = none := by kernel_rfl
theorem served : Try.f8.params.toList.all (fun t => plainT Try.prog 6 t && Try.prog.readableRec t && decide (t < Try.prog.types.size)) = true := by kernel_rfl
set_option maxRecDepth 100000 in
theorem called (H : AHeap) (avs : List Value) (hro : AllRo H) (h : argsOk Try.prog H 6 Try.f8.params.toList avs) : ∃ H', ACall Try.prog 8 avs H (.bool true) H' := by
  rw [show Try.f8.params.toList = [2, 43, 2] from rfl] at h
  obtain ⟨v0, _, rfl, a0, h⟩ := args_cons h
  obtain ⟨v1, _, rfl, a1, h⟩ := args_cons h
  obtain ⟨v2, _, rfl, a2, h⟩ := args_cons h
  obtain rfl := args_nil h
  obtain ⟨a0', rfl, k_a0⟩ := arg_int Try.underlying2 a0
  obtain ⟨p_a1', c_a1', T_a1', a1', rfl, t_a1', v_a1', w_a1', l_a1', k_a1'⟩ := open_tab Try.underlying43 Try.underlying58 Try.underlying2 (by kernel_rfl) (by kernel_rfl) (arg_slice Try.underlying43 a1)
  obtain ⟨a2', rfl, k_a2⟩ := arg_int Try.underlying2 a2
  exact ⟨_, W_laws_FnExactMultipleOf 8589934593 H a0' p_a1' c_a1' T_a1' a1' t_a1' v_a1' w_a1' a2' true (multipleOf_law (by unfold Big; omega) a0' (by omega) (fun r hr => (k_a1' r hr).1) a2')⟩
set_option maxRecDepth 100000 in
theorem lifted (os : Os) (started : os.Started) (H : Type) (enc : TypeId × Value → H) :
    ReturnsInHanded {} Try.checked os 8 .any (Rows.fnExactMultipleOfSpec.pre6 enc Try.prog Try.f8 Rows.fnExactMultipleOfRow.domain false) (Rows.fnExactMultipleOfSpec.post enc Try.prog Try.f8 false true false false) := by
  refine returnsInHanded_of_change_sized (C := Try.checked) own started (by kernel_rfl) Try.func8
    (ChangeSpec.witness6 (enc := enc) (C := Try.checked) false ⟨#[], #[.int .i64 0, .slice none 0 0, .int .i64 0], []⟩ 8 (by kernel_rfl) (by kernel_rfl) (by kernel_rfl) (by kernel_rfl)) ?_
  intro W base args ds gs before hval0 hW hcnd hsz0 _
  refine law_post (k := 6) (tb := 4) trivial (by kernel_rfl) served rfl Try.underlying4 rfl (fun K ds h => ?_) called hval0 hW
  match ds, h with
  | [_, _, _], _ => exact ⟨rfl, rfl, rfl⟩
theorem over : Rows.fnExactMultipleOfRow.holds Try.pinned (OpenSpec.ofChange Rows.fnExactMultipleOfSpec) :=
  OpenClaim.holds_of_wide 8 Try.f8 rfl rfl rfl rfl rfl rfl rfl ⟨rfl, rfl, rfl, rfl, rfl⟩ rfl rfl rfl rfl rfl (by kernel_rfl) Try.func8 (by kernel_rfl)
    (of_decide_eq_true (by kernel_rfl)) (by unfold Func.isWrapper; first | (rw [if_pos (by decide +kernel)]; kernel_rfl) | (rw [if_neg (by decide +kernel)]; exact ⟨rfl, rfl⟩))
    (fun os started H enc _ => lifted os started H enc)
end Go.Proofs.Ytdafmafigcljkaa.fnExactMultipleOf
namespace Go.Proofs.Ytdafmafigcljkaa
theorem fnExactMultipleOf_holds : Rows.FnExactMultipleOfSaid := fnExactMultipleOf.over
#print axioms fnExactMultipleOf_holds
end Go.Proofs.Ytdafmafigcljkaa
