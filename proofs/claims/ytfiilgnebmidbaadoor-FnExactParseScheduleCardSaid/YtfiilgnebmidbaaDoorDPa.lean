/-
  What strings.Cut, strings.Split and the reading of a number compute. No condition.
-/
import Derived.Lib.IndexMore
import Derived.Lib.Split
import Derived.Lib.ParseIntB
import Derived.Lib.ItoaNum
import Derived.Test.YtfiilgnebmidbaaDoorK5
namespace Go.Proofs.YtfiilgnebmidbaaDoor
open Go Am
set_option linter.unusedVariables false
def D_strings_Cut (fu : Nat) (a0 a1 : ByteArray) : Option (ByteArray × ByteArray × Bool) := chk (a0.size < 4294967281) <| some (⟨(Go.Lib.cut a0.data.toList a1.data.toList).1.toArray⟩, ⟨(Go.Lib.cut a0.data.toList a1.data.toList).2.1.toArray⟩, (Go.Lib.cut a0.data.toList a1.data.toList).2.2)
def D_strings_Split (fu : Nat) (a0 a1 : ByteArray) : Option (List ByteArray) := chk (a0.size < 4294967281 ∧ 1 ≤ a1.size) <| some (Go.Lib.splitB a1 0 (Go.Lib.countB a0 a1) a0)
def rdNum (s : ByteArray) : Int := match Go.Lib.parseIntB 64 s.data.toList with
  | .ok v => if Go.Lib.itoa v = s.data.toList then v else -1
  | _ => -1
def D_impl_readNumber (fu : Nat) (a0 : ByteArray) : Option Int := chk (a0.size ≤ 281474976710656) <| some (rdNum a0)
end Go.Proofs.YtfiilgnebmidbaaDoor
