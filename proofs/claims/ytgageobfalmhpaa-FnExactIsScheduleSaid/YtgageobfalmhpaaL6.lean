/-
  The statement FnExactIsSchedule holds: whatever the arguments, the call returns true and leaves memory as it was. No condition.
-/
import Derived.Test.YtgageobfalmhpaaW2
import Derived.Test.YtgageobfalmhpaaRows
import Derived.Test.YtgageobfalmhpaaAm12
import Derived.WalkKit
import Derived.ProofKit
import Derived.OpenShut
import Derived.ChangeOld
import Derived.Below
import Derived.SizedLaws
import Derived.RowKit3
namespace Go.Proofs.Ytgageobfalmhpaa.fnExactIsSchedule
open Go Go.ChangeShapes Go.WideShapes Go.ChangeAt Go.RowKit Am
set_option linter.unusedVariables false
theorem own : ownKnob Try.prog.godebug = none := by kernel_rfl
theorem served : Try.f8.params.toList.all (fun t => plainT Try.prog 6 t && Try.prog.readableRec t && decide (t < Try.prog.types.size)) = true := by kernel_rfl
theorem called (H : AHeap) (avs : List Value) (hro : AllRo H) (h : argsOk Try.prog H 6 Try.f8.params.toList avs) : ∃ H', ACall Try.prog 8 avs H (.bool true) H' := by
  rw [show Try.f8.params.toList = [42] from rfl] at h
  obtain ⟨v0, _, rfl, a0, h⟩ := args_cons h
  obtain rfl := args_nil h
  obtain ⟨xa0, ya0, rfl, ba0, da0⟩ := arg_pair Try.underlying42 rfl rfl (by kernel_rfl) (by kernel_rfl) (by kernel_rfl) a0
  obtain ⟨tm, htm, rtm⟩ := aok_int Try.underlying2 ba0; cases htm
  obtain ⟨i, c, rs, hrs, nrs, lrs, grs, krs⟩ := aok_arrs Try.underlying40 Try.underlying23 Try.underlying2 (by kernel_rfl) (by kernel_rfl) da0; cases hrs
  have hm : maxLen = 9223372036854775807 := by decide
  exact ⟨_, lawIsSchedule_ok H tm i c true rs grs (fun r h => (krs r h).1) (by omega)⟩
set_option maxRecDepth 100000 in
theorem lifted (os : Os) (started : os.Started) (H : Type) (enc : TypeId × Value → H) :
    ReturnsInHanded {} Try.checked os 8 .any (Rows.fnExactIsScheduleSpec.pre6 enc Try.prog Try.f8 Rows.fnExactIsScheduleRow.domain false) (Rows.fnExactIsScheduleSpec.post enc Try.prog Try.f8 false true false false) := by
  refine returnsInHanded_of_change_sized (C := Try.checked) own started (by kernel_rfl) Try.func8
    (ChangeSpec.witness6 (enc := enc) (C := Try.checked) false ⟨#[], #[.agg #[.int .i64 0, .slice none 0 0]], []⟩ 8 (by kernel_rfl) (by kernel_rfl) (by kernel_rfl) (by kernel_rfl)) ?_
  intro W base args ds gs before hval0 hW hcnd hsz0 _
  refine law_post (k := 6) (tb := 4) (by kernel_rfl) served rfl Try.underlying4 rfl (fun K ds h => ?_) called hval0 hW
  match ds, h with
  | [_], _ => exact ⟨rfl, rfl, rfl⟩
theorem over : Rows.fnExactIsScheduleRow.holds Try.pinned (OpenSpec.ofChange Rows.fnExactIsScheduleSpec) :=
  OpenClaim.holds_of_wide 8 Try.f8 rfl rfl rfl rfl rfl rfl rfl ⟨rfl, rfl, rfl, rfl, rfl⟩ rfl rfl rfl rfl rfl (by kernel_rfl) Try.func8 (by kernel_rfl)
    (of_decide_eq_true (by kernel_rfl)) (by unfold Func.isWrapper; first | (rw [if_pos (by decide +kernel)]; kernel_rfl) | (rw [if_neg (by decide +kernel)]; exact ⟨rfl, rfl⟩))
    (fun os started H enc _ => lifted os started H enc)
end Go.Proofs.Ytgageobfalmhpaa.fnExactIsSchedule
namespace Go.Proofs.Ytgageobfalmhpaa
theorem fnExactIsSchedule_holds : Rows.FnExactIsScheduleSaid := fnExactIsSchedule.over
#print axioms fnExactIsSchedule_holds
end Go.Proofs.Ytgageobfalmhpaa
