/-
  Shifts and masks; numbers of other kinds. No condition.
-/
import Derived.Test.YtdafmafigcljkaaK5
namespace Go.Proofs.Ytdafmafigcljkaa.Am
open Go Go.RowKit
set_option linter.unusedVariables false
set_option linter.unusedSimpArgs false

def ishr (k : IntKind) (a b : Int) : Int := a.fdiv (2 ^ (min b.toNat k.bits))
def ishl (k : IntKind) (a b : Int) : Int := k.wrap (a * 2 ^ (min b.toNat k.bits))
def iand (k : IntKind) (a b : Int) : Int := k.wrap ((BitVec.ofInt k.bits a &&& BitVec.ofInt k.bits b).toNat : Int)
section
variable {P : Program} {N : Nat} {t : Env} {d : Option Tmp} {ty : TypeId} {pos : String} {af : Array Edge} {g : Option (Nat × Bool)} {xT yT : TypeId} {x y : Operand} {k j : IntKind} {a b : Int}
theorem p_shrE (hx : aEv t x = some (.int k a)) (hy : aEv t y = some (.int j b)) (hb : 0 ≤ b) : PureOk P N ⟨d, .binOp .shr xT x y yT, ty, pos, af, g⟩ t (.int k (ishr k a b)) := p_shr hx hy hb rfl
theorem p_shlE (hx : aEv t x = some (.int k a)) (hy : aEv t y = some (.int j b)) (hb : 0 ≤ b) : PureOk P N ⟨d, .binOp .shl xT x y yT, ty, pos, af, g⟩ t (.int k (ishl k a b)) := p_shl hx hy hb rfl
theorem p_andE (hx : aEv t x = some (.int k a)) (hy : aEv t y = some (.int k b)) : PureOk P N ⟨d, .binOp .and xT x y yT, ty, pos, af, g⟩ t (.int k (iand k a b)) :=
  p_bits hx hy rfl (fun w => by unfold Op.intBits; simp only [Sem.run_pure]; rfl) (.inl rfl)
end
end Go.Proofs.Ytdafmafigcljkaa.Am
