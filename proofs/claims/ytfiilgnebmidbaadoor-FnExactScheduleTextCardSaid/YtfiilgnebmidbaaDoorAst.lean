/-
  Strings, as the abstract machine has them. No condition.
-/
import Derived.Laws.BytesArg
import Derived.Test.YtfiilgnebmidbaaDoorK5
namespace Go.Proofs.YtfiilgnebmidbaaDoor.Am
open Go Go.RowKit
set_option linter.unusedVariables false
set_option linter.unusedSimpArgs false

section pure
variable {P : Program} {N : Nat} {t : Env} {d : Option Tmp} {ty : TypeId} {pos : String} {af : Array Edge} {g : Option (Nat × Bool)}
theorem p_str {op : BinOp} {xT yT : TypeId} {x y : Operand} {a b : ByteArray} {r : Value} (hx : aEv t x = some (.string a)) (hy : aEv t y = some (.string b)) (hr : flat0 r = true)
    (hrun : ∀ w, (Op.stringOp op a b).run P w = .ok r w) (hb : ∀ w, (binOp op xT (.string a) (.string b)).run P w = (Op.stringOp op a b).run P w) : PureOk P N ⟨d, .binOp op xT x y yT, ty, pos, af, g⟩ t r :=
  p_bin hx hy (.string _) (.string _) (flat0_ok hr) fun w => by rw [Sem.run_bind, guard_string]; show (binOp op xT (.string a) (.string b)).run P w = _; rw [hb]; exact hrun w
theorem p_addS {xT yT : TypeId} {x y : Operand} {a b : ByteArray} (hx : aEv t x = some (.string a)) (hy : aEv t y = some (.string b)) (h : a.size + b.size ≤ 9223372036854775807) : PureOk P N ⟨d, .binOp .add xT x y yT, ty, pos, af, g⟩ t (.string (a ++ b)) :=
  p_str hx hy rfl (fun w => by
    unfold Op.stringOp
    have h2 : ¬ (((a.size + b.size : Nat) : Int) > IntKind.i64.max) := by
      have : IntKind.i64.max = 9223372036854775807 := by decide
      omega
    simp only [if_neg h2, Sem.run_pure]) (fun w => rfl)
theorem p_eqlS {xT yT : TypeId} {x y : Operand} {a b : ByteArray} (hx : aEv t x = some (.string a)) (hy : aEv t y = some (.string b)) : PureOk P N ⟨d, .binOp .eql xT x y yT, ty, pos, af, g⟩ t (.bool (a.toList == b.toList)) :=
  p_str hx hy rfl (fun w => by unfold Op.stringOp; simp only [Sem.run_pure]) (fun w => rfl)
theorem p_neqS {xT yT : TypeId} {x y : Operand} {a b : ByteArray} (hx : aEv t x = some (.string a)) (hy : aEv t y = some (.string b)) : PureOk P N ⟨d, .binOp .neq xT x y yT, ty, pos, af, g⟩ t (.bool (!(a.toList == b.toList))) :=
  p_str hx hy rfl (fun w => by unfold Op.stringOp; simp only [Sem.run_pure]) (fun w => rfl)
theorem wrap_u8 {a : Int} (h : 0 ≤ a ∧ a < 256) : IntKind.u8.wrap a = a := by
  unfold IntKind.wrap
  have h1 : IntKind.u8.bits = 8 := rfl
  have h2 : IntKind.u8.signed = false := rfl
  rw [h1, h2]
  simp only [Bool.false_and, Bool.false_eq_true, if_false]
  omega
theorem p_convU {src dst : TypeId} {dS : TypeDesc} {x : Operand} {a : Int} (hS : P.underlying src = some dS) (hD : P.underlying dst = some (.int .u8)) (hx : aEv t x = some (.int .i64 a)) (h : 0 ≤ a ∧ a < 256) : PureOk P N ⟨d, .convert src dst x, ty, pos, af, g⟩ t (.int .u8 a) := p_conv hS hD hx (wrap_u8 h)
theorem r_convBS {src dst e : TypeId} {x : Operand} {i : Nat} {b : Int} (hx : aEv t x = some (.slice (some ⟨i, 0, none⟩) 1 1)) (hs : P.underlying src = some (.slice e)) (he : P.underlying e = some (.int .u8)) (hd : P.underlying dst = some .string) :
    ROk P N ⟨d, .convert src dst x, ty, pos, af, g⟩ t [(i, 0, .int .u8 b)] (.string (strOfNums [b])) := by
  intro h φ w a hc hr hE
  have hev : V φ (.slice (some ⟨i, 0, none⟩) 1 1) (a.eval x) := by
    cases x with
    | tmp k =>
      obtain ⟨v', h1, h2⟩ := hE k _ hx
      have : a.eval (.tmp k) = v' := by simp [Act.eval, h1]
      rw [this]; exact h2
    | const u =>
      simp only [aEv] at hx
      split at hx
      · rename_i hf
        obtain rfl := Option.some.inj hx
        cases hf
      · cases hx
    | global g => cases hx
    | func f => cases hx
  obtain ⟨L, c', hL, e1, _, _, _⟩ := hev.inv_slice (.inl (by decide))
  obtain ⟨v', h1, h2⟩ := hr i 0 _ L hL (hc (i, 0, .int .u8 b) (by simp))
  cases h2
  refine ⟨.string (strOfNums [b]), ?_, .string _⟩
  have := run_convert_bytes_arg (P := P) w src e hs he L.block (L.off + 0) 1 c' [b] rfl (fun j hj => by
    obtain rfl : j = 0 := by omega
    rw [Nat.add_zero]; exact h1) dst hd
  simp only [execOp]
  rw [e1, Sem.run_bind, this]; rfl
theorem rok_op {o : Oper} {cs : List (Nat × Nat × Value)} {v : Value} {H : AHeap} (h : ROk P N o t cs v) (hc : ∀ c ∈ cs, hcell H c.1 c.2.1 = some c.2.2) : OpOk P N o t H v H := fun W φ w a hs he => by
  obtain ⟨v', h1, h2⟩ := h (hcell H) φ w a hc (fun i o c L hL e => cell_ok hs hL e) (fun k v e => he.get k v e)
  exact Does.of_value h1 ⟨φ, hs, h2, Step.refl _ _ _⟩
theorem s_convBS {src dst e : TypeId} {x : Operand} {i : Nat} {b : Int} {H : AHeap} (hs : P.underlying src = some (.slice e)) (he : P.underlying e = some (.int .u8)) (hd : P.underlying dst = some .string) (hx : aEv t x = some (.slice (some ⟨i, 0, none⟩) 1 1)) (hc : hcell H i 0 = some (.int .u8 b)) :
    OpOk P N ⟨d, .convert src dst x, ty, pos, af, g⟩ t H (.string (strOfNums [b])) H := rok_op (r_convBS hx hs he hd) (fun c h => by rw [List.mem_singleton.1 h]; exact hc)
variable {H : AHeap}
/-- a slice of one-celled values written out -/
theorem s_buildZ {T E : TypeId} {len i : Nat} {ps : List (Nat × Operand)} {vs : List (Nat × Value)} {cs : List Value} {z z0 : Value} {H' : AHeap} (hT : P.underlying T = some (.slice E)) (hm : ∀ w, (sizeOf E).run P w = .ok 1 w) (hz : ∀ w, (zeroValue E).run P w = .ok z w) (hzc : z.cells.toList = [z0]) (hzf : flat0 z0 = true)
    (hp : ps.map (fun p => (p.1, aEv t p.2)) = vs.map (fun p => (p.1, some p.2))) (hlen : len ≤ 16777216) (hcs : partsOf 1 vs ((List.replicate len [z0]).flatten) = some cs) (hl : cs.length = len) (hidx : H.length = i) (hH : H ++ [AObj.row false cs] = H') :
    OpOk P N ⟨d, .buildSlice T len ps.toArray, ty, pos, af, g⟩ t H (.slice (some ⟨i, 0, none⟩) len len) H' := by
  subst hidx hH
  exact m_buildSlice hp hT hm hz (by rw [hzc]; intro c hc; rw [List.mem_singleton.1 hc]; exact hzf) (by rw [← Array.length_toList, hzc]; rfl) Nat.one_pos (by omega) (by rw [hzc]; exact hcs) (by omega)
theorem a_buildZ {T E : TypeId} {len i : Nat} {ps : List (Nat × Operand)} {vs : List (Nat × Value)} {cs : List Value} {z z0 : Value} (hT : P.underlying T = some (.slice E)) (hm : ∀ w, (sizeOf E).run P w = .ok 1 w) (hz : ∀ w, (zeroValue E).run P w = .ok z w) (hzc : z.cells.toList = [z0]) (hzf : flat0 z0 = true)
    (hp : ps.map (fun p => (p.1, aEv t p.2)) = vs.map (fun p => (p.1, some p.2))) (hlen : len ≤ 16777216) (hcs : partsOf 1 vs ((List.replicate len [z0]).flatten) = some cs) (hl : cs.length = len) :
    AOk P N ⟨d, .buildSlice T len ps.toArray, ty, pos, af, g⟩ t cs i (.slice (some ⟨i, 0, none⟩) len len) := by
  exact a_buildSlice hp hT hm hz (by rw [hzc]; intro c hc; rw [List.mem_singleton.1 hc]; exact hzf) (by rw [← Array.length_toList, hzc]; rfl) Nat.one_pos (by omega) (by rw [hzc]; exact hcs) (by omega)
end pure
/-- a call that hands back plain data and leaves what lay as it lay -/
theorem pure_call {P : Program} {f : FuncId} {args : List Value} {H : AHeap} {v : Value} (hv : Flat v)
    (h : ∀ W φ w args', Sim W φ H w → VA φ args args' → Calls P f args' w fun e w' => e = .returned v ∧ Below w.heap.size w w') : ACall P f args H v H := fun W φ w args' hs hva => by
  refine (h W φ w args' hs hva).mono ?_
  rintro e w' ⟨rfl, hb⟩
  obtain ⟨h1, h2⟩ := same_ok hs hb
  exact ⟨v, φ, rfl, h1, V.flat hv, h2⟩
end Go.Proofs.YtfiilgnebmidbaaDoor.Am
