/-
  The statement FnComponents holds: whatever the arguments, the call returns true and leaves memory as it was. No condition.
-/
import Derived.Test.YtdafmafigcljkaaWTf
import Derived.Test.YtdafmafigcljkaaPuYc
import Derived.Test.YtdafmafigcljkaaSrcL
import Derived.Test.YtdafmafigcljkaaRows
import Derived.Test.YtdafmafigcljkaaK5
import Derived.WalkKit
import Derived.ProofKit
import Derived.OpenShut
import Derived.ChangeOld
import Derived.Below
import Derived.SizedLaws
import Derived.RowKit3
namespace Go.Proofs.Ytdafmafigcljkaa.fnComponents
open Go Go.ChangeShapes Go.WideShapes Go.ChangeAt Go.RowKit Am
set_option linter.unusedVariables false
theorem own : ownKnob Try.prog.godebug = none := by kernel_rfl
theorem served : Try.f9.params.toList.all (fun t => plainT Try.prog 6 t && Try.prog.readableRec t && decide (t < Try.prog.types.size)) = true := by kernel_rfl
set_option maxRecDepth 100000 in
theorem called (H : AHeap) (avs : List Value) (hro : AllRo H) (h : argsOk Try.prog H 6 Try.f9.params.toList avs) : ∃ H', ACall Try.prog 9 avs H (.bool true) H' := by
  rw [show Try.f9.params.toList = [51] from rfl] at h
  obtain ⟨v0, _, rfl, a0, h⟩ := args_cons h
  obtain rfl := args_nil h
  obtain ⟨p_a0, c_a0, a0', rfl, v_a0, k_a0⟩ := open_bytes Try.underlying51 Try.underlying5 (by kernel_rfl) (arg_slice Try.underlying51 a0)
  obtain ⟨F, hn, ho, q⟩ := pv_of v_a0
  obtain ⟨v, G, hc, F', rfl, _⟩ := W_laws_FnComponents 8589934593 H F p_a0 c_a0 a0' q hn ho true (fnComp_law k_a0)
  exact ⟨G, hc⟩
set_option maxRecDepth 100000 in
theorem lifted (os : Os) (started : os.Started) (H : Type) (enc : TypeId × Value → H) :
    ReturnsInHanded {} Try.checked os 9 .any (Rows.fnComponentsSpec.pre6 enc Try.prog Try.f9 Rows.fnComponentsRow.domain false) (Rows.fnComponentsSpec.post enc Try.prog Try.f9 false true false false) := by
  refine returnsInHanded_of_change_sized (C := Try.checked) own started (by kernel_rfl) Try.func9
    (ChangeSpec.witness6 (enc := enc) (C := Try.checked) false ⟨#[], #[.slice none 0 0], []⟩ 8 (by kernel_rfl) (by kernel_rfl) (by kernel_rfl) (by kernel_rfl)) ?_
  intro W base args ds gs before hval0 hW hcnd hsz0 _
  refine law_post (k := 6) (tb := 4) trivial (by kernel_rfl) served rfl Try.underlying4 rfl (fun K ds h => ?_) called hval0 hW
  match ds, h with
  | [_], _ => exact ⟨rfl, rfl, rfl⟩
theorem over : Rows.fnComponentsRow.holds Try.pinned (OpenSpec.ofChange Rows.fnComponentsSpec) :=
  OpenClaim.holds_of_wide 9 Try.f9 rfl rfl rfl rfl rfl rfl rfl ⟨rfl, rfl, rfl, rfl, rfl⟩ rfl rfl rfl rfl rfl (by kernel_rfl) Try.func9 (by kernel_rfl)
    (of_decide_eq_true (by kernel_rfl)) (by unfold Func.isWrapper; first | (rw [if_pos (by decide +kernel)]; kernel_rfl) | (rw [if_neg (by decide +kernel)]; exact ⟨rfl, rfl⟩))
    (fun os started H enc _ => lifted os started H enc)
end Go.Proofs.Ytdafmafigcljkaa.fnComponents
namespace Go.Proofs.Ytdafmafigcljkaa
theorem fnComponents_holds : Rows.FnComponentsSaid := fnComponents.over
#print axioms fnComponents_holds
end Go.Proofs.Ytdafmafigcljkaa
