/-
  The statement FnExactChainFrom holds: whatever the arguments, the call returns true and leaves memory as it was. No condition.
-/
import Derived.Test.YtgageobfalmhpaaW3
import Derived.Test.YtgageobfalmhpaaRows
import Derived.Test.YtgageobfalmhpaaAm12
import Derived.WalkKit
import Derived.ProofKit
import Derived.OpenShut
import Derived.ChangeOld
import Derived.Below
import Derived.SizedLaws
import Derived.RowKit3
namespace Go.Proofs.Ytgageobfalmhpaa.fnExactChainFrom
open Go Go.ChangeShapes Go.WideShapes Go.ChangeAt Go.RowKit Am
set_option linter.unusedVariables false
theorem own : ownKnob Try.prog.godebug = none := by kernel_rfl
theorem served : Try.f7.params.toList.all (fun t => plainT Try.prog 6 t && Try.prog.readableRec t && decide (t < Try.prog.types.size)) = true := by kernel_rfl
theorem called (H : AHeap) (avs : List Value) (hro : AllRo H) (h : argsOk Try.prog H 6 Try.f7.params.toList avs) : ∃ H', ACall Try.prog 7 avs H (.bool true) H' := by
  rw [show Try.f7.params.toList = [2, 23, 23, 2] from rfl] at h
  obtain ⟨v0, _, rfl, a0, h⟩ := args_cons h
  obtain ⟨v1, _, rfl, a1, h⟩ := args_cons h
  obtain ⟨v2, _, rfl, a2, h⟩ := args_cons h
  obtain ⟨v3, _, rfl, a3, h⟩ := args_cons h
  obtain rfl := args_nil h
  obtain ⟨n, rfl, hn⟩ := arg_int Try.underlying2 a0
  obtain ⟨r, hr, rfl, kr⟩ := arg_arr Try.underlying23 Try.underlying2 (by kernel_rfl) (by kernel_rfl) a1
  obtain ⟨q, hq, rfl, kq⟩ := arg_arr Try.underlying23 Try.underlying2 (by kernel_rfl) (by kernel_rfl) a2
  obtain ⟨a, rfl, ha⟩ := arg_int Try.underlying2 a3
  exact ⟨_, lawChain_ok H n r q a hr hq⟩
set_option maxRecDepth 100000 in
theorem lifted (os : Os) (started : os.Started) (H : Type) (enc : TypeId × Value → H) :
    ReturnsInHanded {} Try.checked os 7 .any (Rows.fnExactChainFromSpec.pre6 enc Try.prog Try.f7 Rows.fnExactChainFromRow.domain false) (Rows.fnExactChainFromSpec.post enc Try.prog Try.f7 false true false false) := by
  refine returnsInHanded_of_change_sized (C := Try.checked) own started (by kernel_rfl) Try.func7
    (ChangeSpec.witness6 (enc := enc) (C := Try.checked) false ⟨#[], #[.int .i64 0, .agg (Array.replicate 14 (.int .i64 0)), .agg (Array.replicate 14 (.int .i64 0)), .int .i64 0], []⟩ 8 (by kernel_rfl) (by kernel_rfl) (by kernel_rfl) (by kernel_rfl)) ?_
  intro W base args ds gs before hval0 hW hcnd hsz0 _
  refine law_post (k := 6) (tb := 4) (by kernel_rfl) served rfl Try.underlying4 rfl (fun K ds h => ?_) called hval0 hW
  match ds, h with
  | [_, _, _, _], _ => exact ⟨rfl, rfl, rfl⟩
theorem over : Rows.fnExactChainFromRow.holds Try.pinned (OpenSpec.ofChange Rows.fnExactChainFromSpec) :=
  OpenClaim.holds_of_wide 7 Try.f7 rfl rfl rfl rfl rfl rfl rfl ⟨rfl, rfl, rfl, rfl, rfl⟩ rfl rfl rfl rfl rfl (by kernel_rfl) Try.func7 (by kernel_rfl)
    (of_decide_eq_true (by kernel_rfl)) (by unfold Func.isWrapper; first | (rw [if_pos (by decide +kernel)]; kernel_rfl) | (rw [if_neg (by decide +kernel)]; exact ⟨rfl, rfl⟩))
    (fun os started H enc _ => lifted os started H enc)
end Go.Proofs.Ytgageobfalmhpaa.fnExactChainFrom
namespace Go.Proofs.Ytgageobfalmhpaa
theorem fnExactChainFrom_holds : Rows.FnExactChainFromSaid := fnExactChainFrom.over
#print axioms fnExactChainFrom_holds
end Go.Proofs.Ytgageobfalmhpaa
