
/-
  The statement FnAdders holds: whatever the arguments, the call returns true and leaves memory as it was. No condition.
-/
import Derived.Test.YtdafmafigcljkaaGreatWTf
import Derived.Test.YtdafmafigcljkaaGreatQc
import Derived.Test.YtdafmafigcljkaaGreatSrcL
import Derived.Test.YtdafmafigcljkaaGreatRows
import Derived.Test.YtdafmafigcljkaaGreatK5
import Derived.WalkKit
import Derived.ProofKit
import Derived.OpenShut
import Derived.ChangeOld
import Derived.Below
import Derived.SizedLaws
import Derived.RowKit3
namespace Go.Proofs.YtdafmafigcljkaaGreat.fnAdders
open Go Go.ChangeShapes Go.WideShapes Go.ChangeAt Go.RowKit Am
set_option linter.unusedVariables false
theorem own : ownKnob Tryz.prog.godebug = none := by kernel_rfl
theorem served : Tryz.f3.params.toList.all (fun t => plainT Tryz.prog 6 t && Tryz.prog.readableRec t && decide (t < Tryz.prog.types.size)) = true := by kernel_rfl
set_option maxRecDepth 100000 in
theorem called (H : AHeap) (avs : List Value) (hro : AllRo H) (h : argsOk Tryz.prog H 6 Tryz.f3.params.toList avs) : ∃ H', ACall Tryz.prog 3 avs H (.bool true) H' := by
  rw [show Tryz.f3.params.toList = [22] from rfl] at h
  obtain ⟨v0, _, rfl, a0, h⟩ := args_cons h
  obtain rfl := args_nil h
  obtain ⟨p_a0, c_a0, a0', rfl, v_a0, k_a0⟩ := open_bytes Tryz.underlying22 Tryz.underlying5 (by kernel_rfl) (arg_slice Tryz.underlying22 a0)
  obtain ⟨F, hn, ho, q⟩ := pv_of v_a0
  obtain ⟨v, G, hc, F', rfl, _⟩ := W_laws_FnAdders 8589934693 H F p_a0 c_a0 a0' q hn ho true (fnAdders_law k_a0)
  exact ⟨G, hc⟩
set_option maxRecDepth 100000 in
theorem lifted (os : Os) (started : os.Started) (H : Type) (enc : TypeId × Value → H) :
    ReturnsInHanded {} Tryz.checked os 3 .any (Rows.fnAddersSpec.pre6 enc Tryz.prog Tryz.f3 Rows.fnAddersRow.domain false) (Rows.fnAddersSpec.post enc Tryz.prog Tryz.f3 false true false false) := by
  refine returnsInHanded_of_change_sized (C := Tryz.checked) own started (by kernel_rfl) Tryz.func3
    (ChangeSpec.witness6 (enc := enc) (C := Tryz.checked) false ⟨#[], #[.slice none 0 0], []⟩ 8 (by kernel_rfl) (by kernel_rfl) (by kernel_rfl) (by kernel_rfl)) ?_
  intro W base args ds gs before hval0 hW hcnd hsz0 _
  refine law_post (k := 6) (tb := 4) trivial (by kernel_rfl) served rfl Tryz.underlying4 rfl (fun K ds h => ?_) called hval0 hW
  match ds, h with
  | [_], _ => exact ⟨rfl, rfl, rfl⟩
theorem over : Rows.fnAddersRow.holds Tryz.pinned (OpenSpec.ofChange Rows.fnAddersSpec) :=
  OpenClaim.holds_of_wide 3 Tryz.f3 rfl rfl rfl rfl rfl rfl rfl ⟨rfl, rfl, rfl, rfl, rfl⟩ rfl rfl rfl rfl rfl (by kernel_rfl) Tryz.func3 (by kernel_rfl)
    (of_decide_eq_true (by kernel_rfl)) (by unfold Func.isWrapper; first | (rw [if_pos (by decide +kernel)]; kernel_rfl) | (rw [if_neg (by decide +kernel)]; exact ⟨rfl, rfl⟩))
    (fun os started H enc _ => lifted os started H enc)
end Go.Proofs.YtdafmafigcljkaaGreat.fnAdders
namespace Go.Proofs.YtdafmafigcljkaaGreat
theorem fnAdders_holds : Rows.FnAddersSaid := fnAdders.over
#print axioms fnAdders_holds
end Go.Proofs.YtdafmafigcljkaaGreat
