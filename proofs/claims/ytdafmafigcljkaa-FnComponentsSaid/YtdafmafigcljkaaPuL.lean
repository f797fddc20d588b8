/-
  What the laws' own helpers compute: copies, sizes, comparisons, marks. Plain Lean, no program, no condition.
-/
import Derived.Test.YtdafmafigcljkaaPu0
namespace Go.Proofs.Ytdafmafigcljkaa
open Go Am
set_option linter.unusedVariables false
set_option linter.unusedSimpArgs false

def szv (l : Int) (n : Nat) : Int := if l - n < 0 then -1 else l - n
theorem szv_pos {n : Nat} (h : ¬ szv 1048576 n < 0) : n ≤ 1048576 := by unfold szv at h; split at h <;> omega
end Go.Proofs.Ytdafmafigcljkaa

