/-
  What strconv.FormatInt (at numbers of one or two digits) and strings.Join compute. No condition.
-/
import Derived.Lib.ItoaNum
import Derived.Lib.Join
import Derived.Test.YtfiilgnebmidbaaDoorAst
namespace Go.Proofs.YtfiilgnebmidbaaDoor
open Go Am
set_option linter.unusedVariables false
def D_strconv_FormatInt (fu : Nat) (a0 : Int) (a1 : Int) : Option ByteArray := chk (0 ≤ a0 ∧ a0 < 100 ∧ a1 = 10) <| some ⟨(Go.Lib.decDigits a0.toNat).toArray⟩
def D_strings_Join (fu : Nat) (a0 : List ByteArray) (a1 : ByteArray) : Option ByteArray := chk (a0.length ≤ 140737488355328 ∧ (Go.Lib.join (a0.map (·.data.toList)) a1.data.toList).length ≤ 140737488355328) <| some ⟨(Go.Lib.join (a0.map (·.data.toList)) a1.data.toList).toArray⟩
end Go.Proofs.YtfiilgnebmidbaaDoor
