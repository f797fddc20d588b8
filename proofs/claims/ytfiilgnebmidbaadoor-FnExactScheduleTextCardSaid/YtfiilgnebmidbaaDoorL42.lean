/-
  The statement FnExactScheduleText holds: whatever the arguments, the call returns true and leaves memory as it was. No condition.
-/
import Derived.Test.YtfiilgnebmidbaaDoorWY
import Derived.Test.YtfiilgnebmidbaaDoorPuTs
import Derived.Test.YtfiilgnebmidbaaDoorK5
import Derived.Test.YtfiilgnebmidbaaDoorRows
import Derived.WalkKit
import Derived.ProofKit
import Derived.OpenShut
import Derived.ChangeOld
import Derived.Below
import Derived.SizedLaws
import Derived.RowKit3
import Derived.Handed
import Derived.LaidMore
import Derived.LaidLaws
import Derived.SevenTiedAt
import Derived.Stop.Joined
import Derived.Test.YtfiilgnebmidbaaDoorCards
import Derived.Test.YtfiilgnebmidbaaDoorTie
namespace Go.Proofs.YtfiilgnebmidbaaDoor.fnExactScheduleText
open Go Go.ChangeShapes Go.WideShapes Go.ChangeAt Go.RowKit Am
set_option linter.unusedVariables false
theorem own : ownKnob Tryd.prog.godebug = none := by kernel_rfl
theorem served : Tryd.f4.params.toList.all (fun t => plainT Tryd.prog 6 t && Tryd.prog.readableRec t && decide (t < Tryd.prog.types.size)) = true := by kernel_rfl
set_option maxRecDepth 100000 in
theorem called (H : AHeap) (avs : List Value) (hro : AllRo H) (h : argsOk Tryd.prog H 6 Tryd.f4.params.toList avs) : ∃ H', ACall Tryd.prog 4 avs H (.bool true) H' := by
  rw [show Tryd.f4.params.toList = [34] from rfl] at h
  obtain ⟨v0, _, rfl, a0, h⟩ := args_cons h
  obtain rfl := args_nil h
  obtain ⟨x0, z0, rfl, b0, d0⟩ := arg_pair Tryd.underlying34 rfl rfl (by kernel_rfl) (by kernel_rfl) (by kernel_rfl) a0
  obtain ⟨a0_0, e0, k_a0_0⟩ := aok_int Tryd.underlying2 b0; cases e0
  obtain ⟨p_a0_1, c_a0_1, a0_1, rfl, h_a0_1, l_a0_1, v_a0_1, k_a0_1⟩ := open_rows Tryd.underlying32 Tryd.underlying75 Tryd.underlying2 (by kernel_rfl) (by kernel_rfl) d0
  exact ⟨_, W_laws_FnExactScheduleText 8589934593 H a0_0 p_a0_1 c_a0_1 a0_1 h_a0_1 v_a0_1 true (schText_law (by unfold Big; omega) a0_0 h_a0_1 (by omega))⟩
def laid0 : List (String × DataW Unit) := [("math/bits.deBruijn32tab", Rows.laid_math_bits_deBruijn32tab), ("math/bits.deBruijn64tab", Rows.laid_math_bits_deBruijn64tab), ("internal/strconv.uint64pow10", Rows.laid_internal_strconv_uint64pow10)]
/-- the start-up code's own heap meets the condition -/
theorem door_met (os : Os) (args : Array Value) : laidMetH Tryd.prog laid0 ((World.doorLaid Tryd.prog 72 os).forCall (fun _ _ => 0) ⟨#[], args, []⟩).memory :=
  laidMetH_of_parts3 (fuel := 8) (laidMet_of_run' 8 (by kernel_rfl) (by kernel_rfl)) (by kernel_rfl) (by kernel_rfl)
set_option maxRecDepth 100000 in
theorem lifted (os : Os) (started : os.Started) (H : Type) (enc : TypeId × Value → H) :
    ReturnsInHanded {} Tryd.checked os 4 .any (fun w args => (Rows.fnExactScheduleTextSpec.pre enc Tryd.prog Tryd.f4 [] false w args ∧ laidMetH Tryd.prog laid0 w) ∧ sizedMet enc Tryd.prog Tryd.f4 (OpenSpec.ofChange Rows.fnExactScheduleTextSpec) false w args)
      (Rows.fnExactScheduleTextSpec.post enc Tryd.prog Tryd.f4 false true false false) := by
  refine returnsInHanded_of_change_and (C := Tryd.checked) (X := fun w _ => laidMetH Tryd.prog laid0 w) (fun _ _ _ hh h => h.of_heap hh) own started (by kernel_rfl) Tryd.func4
    (ChangeSpec.witness_shaped (enc := enc) (C := Tryd.checked) (os := os) (X := fun w _ => laidMetH Tryd.prog laid0 w) false (World.doorLaid Tryd.prog 72 os) #[.agg #[.int .i64 0, .slice none 0 0]] 8 rfl (World.shaped_of_RefB (by kernel_rfl) (by kernel_rfl)) (by kernel_rfl) (by kernel_rfl) (by kernel_rfl) (door_met os _)) ?_
  intro W base args ds gs before hval0 hW hcnd hsz0 hL _
  refine law_post (k := 6) (tb := 4) (by kernel_rfl) served rfl Tryd.underlying4 rfl (fun K ds h => ?_) called hval0 hW
  match ds, h with
  | [_], _ => exact ⟨rfl, rfl, rfl⟩
theorem over : Rows.fnExactScheduleTextRow.holds Tryd.pinned (OpenSpec.ofChange Rows.fnExactScheduleTextSpec) :=
  OpenClaim.holds_of_wide 4 Tryd.f4 rfl rfl rfl rfl rfl rfl rfl ⟨rfl, rfl, rfl, rfl, rfl⟩ rfl rfl rfl rfl rfl (by kernel_rfl) Tryd.func4 (by kernel_rfl)
    (of_decide_eq_true (by kernel_rfl)) (by unfold Func.isWrapper; first | (rw [if_pos (by decide +kernel)]; kernel_rfl) | (rw [if_neg (by decide +kernel)]; exact ⟨rfl, rfl⟩))
    (fun os started H enc _ => lifted os started H enc)
end Go.Proofs.YtfiilgnebmidbaaDoor.fnExactScheduleText
namespace Go.Proofs.YtfiilgnebmidbaaDoor
theorem fnExactScheduleTextCard_holds : Rows.FnExactScheduleTextCardSaid :=
  Claim7.holds_tied_plain_at .later [] [.data, .data, .data] true (true, "b9732b5f92aa2f2fbf4008387f16427c24b792ad7fe628d8fcc030c776bf6c77") true
    fnExactScheduleText.over (fun _ h => by cases h) (by kernel_rfl) (fun _ h => by cases h) fnExactScheduleText_row_tie rfl ⟨rfl, rfl⟩ (by kernel_rfl) rfl
    (fun f fn hf hfn => by
      obtain rfl : f = 4 := Option.some.inj ((show Tryd.prog.funcNamed "loop.example/g01379/laws.FnExactScheduleText" = some 4 by kernel_rfl).symm.trans hf) |>.symm
      obtain rfl : fn = Tryd.f4 := (Option.some.inj (Tryd.func4.symm.trans hfn)).symm
      exact ⟨by kernel_rfl, fun j t ht => by
        rw [Tryd.params4] at ht
        have hm : t ∈ [34] := by simpa using Array.mem_of_getElem? ht
        have hall : ([34].all fun u => !Tryd.prog.wantsStandIn u) = true := by kernel_rfl
        exact (show Tryd.prog.wantsStandIn t = false by simpa using List.all_eq_true.1 hall t hm)⟩)
    (by kernel_rfl)
#print axioms fnExactScheduleTextCard_holds
end Go.Proofs.YtfiilgnebmidbaaDoor
