/-
  Strings, as the abstract machine has them. No condition.
-/
import Derived.Laws.BytesArg
import Derived.Test.YtdafmafigcljkaaK5
namespace Go.Proofs.Ytdafmafigcljkaa.Am
open Go Go.RowKit
set_option linter.unusedVariables false
set_option linter.unusedSimpArgs false

def rds (l : List ByteArray) (k : Nat) : ByteArray := l.getD k ⟨#[]⟩
theorem sts_get {l : List ByteArray} {k : Nat} (h : k < l.length) : (sts l)[k]? = some (.string (rds l k)) := by
  unfold sts rds; rw [List.getElem?_map, List.getD_eq_getElem?_getD, List.getElem?_eq_getElem h]; rfl
section pure
variable {P : Program} {N : Nat} {t : Env} {d : Option Tmp} {ty : TypeId} {pos : String} {af : Array Edge} {g : Option (Nat × Bool)}
theorem p_str {op : BinOp} {xT yT : TypeId} {x y : Operand} {a b : ByteArray} {r : Value} (hx : aEv t x = some (.string a)) (hy : aEv t y = some (.string b)) (hr : flat0 r = true)
    (hrun : ∀ w, (Op.stringOp op a b).run P w = .ok r w) (hb : ∀ w, (binOp op xT (.string a) (.string b)).run P w = (Op.stringOp op a b).run P w) : PureOk P N ⟨d, .binOp op xT x y yT, ty, pos, af, g⟩ t r :=
  p_bin hx hy (.string _) (.string _) (flat0_ok hr) fun w => by rw [Sem.run_bind, guard_string]; show (binOp op xT (.string a) (.string b)).run P w = _; rw [hb]; exact hrun w
theorem p_addS {xT yT : TypeId} {x y : Operand} {a b : ByteArray} (hx : aEv t x = some (.string a)) (hy : aEv t y = some (.string b)) (h : a.size + b.size ≤ 9223372036854775807) : PureOk P N ⟨d, .binOp .add xT x y yT, ty, pos, af, g⟩ t (.string (a ++ b)) :=
  p_str hx hy rfl (fun w => by
    unfold Op.stringOp
    have h2 : ¬ (((a.size + b.size : Nat) : Int) > IntKind.i64.max) := by
      have : IntKind.i64.max = 9223372036854775807 := by decide
      omega
    simp only [if_neg h2, Sem.run_pure]) (fun w => rfl)
theorem p_eqlS {xT yT : TypeId} {x y : Operand} {a b : ByteArray} (hx : aEv t x = some (.string a)) (hy : aEv t y = some (.string b)) : PureOk P N ⟨d, .binOp .eql xT x y yT, ty, pos, af, g⟩ t (.bool (a.toList == b.toList)) :=
  p_str hx hy rfl (fun w => by unfold Op.stringOp; simp only [Sem.run_pure]) (fun w => rfl)
theorem p_neqS {xT yT : TypeId} {x y : Operand} {a b : ByteArray} (hx : aEv t x = some (.string a)) (hy : aEv t y = some (.string b)) : PureOk P N ⟨d, .binOp .neq xT x y yT, ty, pos, af, g⟩ t (.bool (!(a.toList == b.toList))) :=
  p_str hx hy rfl (fun w => by unfold Op.stringOp; simp only [Sem.run_pure]) (fun w => rfl)
theorem wrap_u8 {a : Int} (h : 0 ≤ a ∧ a < 256) : IntKind.u8.wrap a = a := by
  unfold IntKind.wrap
  have h1 : IntKind.u8.bits = 8 := rfl
  have h2 : IntKind.u8.signed = false := rfl
  rw [h1, h2]
  simp only [Bool.false_and, Bool.false_eq_true, if_false]
  omega
theorem p_convU {src dst : TypeId} {dS : TypeDesc} {x : Operand} {a : Int} (hS : P.underlying src = some dS) (hD : P.underlying dst = some (.int .u8)) (hx : aEv t x = some (.int .i64 a)) (h : 0 ≤ a ∧ a < 256) : PureOk P N ⟨d, .convert src dst x, ty, pos, af, g⟩ t (.int .u8 a) := p_conv hS hD hx (wrap_u8 h)
/-- the byte at a place -/
def sby (s : ByteArray) (k : Nat) : Int := ((s.data.toList.getD k 0).toNat : Int)
theorem get_sby {s : ByteArray} {k : Nat} (h : k < s.size) : ∃ b, s[k]? = some b ∧ ((b.toNat : Nat) : Int) = sby s k := by
  refine ⟨s[k], by simp [h], ?_⟩
  unfold sby
  have h2 : k < s.data.toList.length := by simpa using h
  rw [List.getD_eq_getElem?_getD, List.getElem?_eq_getElem h2]
  rfl
theorem p_indexS {T : TypeId} {x y : Operand} {s : ByteArray} {k : IntKind} {n : Int} (hT : P.underlying T = some .string) (hx : aEv t x = some (.string s)) (hy : aEv t y = some (.int k n)) (hn : inR n s.size) :
    PureOk P N ⟨d, .index T x y, ty, pos, af, g⟩ t (.int .u8 (sby s n.toNat)) := by
  intro φ w a he
  have h0 : 0 ≤ n := hn.1
  have h1 : n.toNat < s.size := by have : n < (s.size : Int) := hn.2; omega
  obtain ⟨b, hb, e⟩ := get_sby h1
  refine ⟨.int .u8 (sby s n.toNat), ?_, .int _ _⟩
  simp only [execOp, ev_string he hx, ev_int he hy]
  simp [Instr.index, asIntOf, run_underlying hT, h0, hb, e]
theorem p_sliceS {T : TypeId} {x y z : Operand} {s : ByteArray} {j k : IntKind} {l h : Int} (hT : P.underlying T = some .string) (hx : aEv t x = some (.string s)) (hy : aEv t y = some (.int j l)) (hz : aEv t z = some (.int k h)) (hb : 0 ≤ l ∧ l ≤ h ∧ h ≤ (s.size : Int)) :
    PureOk P N ⟨d, .slice T x (some y) (some z) none, ty, pos, af, g⟩ t (.string (s.extract l.toNat h.toNat)) := by
  intro φ w a he
  obtain ⟨h0, h1, h2⟩ := hb
  have e1 : ((h.toNat : Nat) : Int) = h := by omega
  have e2 : l ≤ ((h.toNat : Nat) : Int) := by omega
  refine ⟨.string (s.extract l.toNat h.toNat), ?_, .string _⟩
  simp only [execOp, Instr.sliceAt, ev_string he hx, Option.map_some, Option.map_none, ev_int he hy, ev_int he hz]
  simp [Instr.slice, run_underlying hT, Instr.sliceBounds, Instr.sliceBound, asIntOf, h0, h2, e2, (by omega : 0 ≤ h)]
  intro hc; exfalso; omega
theorem p_sliceS1 {T : TypeId} {x y : Operand} {s : ByteArray} {j : IntKind} {l : Int} (hT : P.underlying T = some .string) (hx : aEv t x = some (.string s)) (hy : aEv t y = some (.int j l)) (hb : 0 ≤ l ∧ l ≤ (s.size : Int)) :
    PureOk P N ⟨d, .slice T x (some y) none none, ty, pos, af, g⟩ t (.string (s.extract l.toNat s.size)) := by
  intro φ w a he
  obtain ⟨h0, h1⟩ := hb
  refine ⟨.string (s.extract l.toNat s.size), ?_, .string _⟩
  simp only [execOp, Instr.sliceAt, ev_string he hx, Option.map_some, Option.map_none, ev_int he hy]
  simp [Instr.slice, run_underlying hT, Instr.sliceBounds, Instr.sliceBound, asIntOf, h0, h1]
theorem p_subU {xT yT : TypeId} {x y : Operand} {a b : Int} (hx : aEv t x = some (.int .u8 a)) (hy : aEv t y = some (.int .u8 b)) (h : 0 ≤ a - b ∧ a - b < 256) : PureOk P N ⟨d, .binOp .sub xT x y yT, ty, pos, af, g⟩ t (.int .u8 (a - b)) := p_sub hx hy (wrap_u8 h)
theorem p_convI {src dst : TypeId} {dS : TypeDesc} {x : Operand} {j : IntKind} {a : Int} (hS : P.underlying src = some dS) (hD : P.underlying dst = some (.int .i64)) (hx : aEv t x = some (.int j a)) (h : in64 a) : PureOk P N ⟨d, .convert src dst x, ty, pos, af, g⟩ t (.int .i64 a) := p_conv hS hD hx (in64_wr h)
theorem r_convBS {src dst e : TypeId} {x : Operand} {i : Nat} {b : Int} (hx : aEv t x = some (.slice (some ⟨i, 0, none⟩) 1 1)) (hs : P.underlying src = some (.slice e)) (he : P.underlying e = some (.int .u8)) (hd : P.underlying dst = some .string) :
    ROk P N ⟨d, .convert src dst x, ty, pos, af, g⟩ t [(i, 0, .int .u8 b)] (.string (strOfNums [b])) := by
  intro h φ w a hc hr hE
  have hev : V φ (.slice (some ⟨i, 0, none⟩) 1 1) (a.eval x) := by
    cases x with
    | tmp k =>
      obtain ⟨v', h1, h2⟩ := hE k _ hx
      have : a.eval (.tmp k) = v' := by simp [Act.eval, h1]
      rw [this]; exact h2
    | const u =>
      simp only [aEv] at hx
      split at hx
      · rename_i hf
        obtain rfl := Option.some.inj hx
        cases hf
      · cases hx
    | global g => cases hx
    | func f => cases hx
  obtain ⟨L, c', hL, e1, _, _, _⟩ := hev.inv_slice (.inl (by decide))
  obtain ⟨v', h1, h2⟩ := hr i 0 _ L hL (hc (i, 0, .int .u8 b) (by simp))
  cases h2
  refine ⟨.string (strOfNums [b]), ?_, .string _⟩
  have := run_convert_bytes_arg (P := P) w src e hs he L.block (L.off + 0) 1 c' [b] rfl (fun j hj => by
    obtain rfl : j = 0 := by omega
    rw [Nat.add_zero]; exact h1) dst hd
  simp only [execOp]
  rw [e1, Sem.run_bind, this]; rfl
theorem rok_op {o : Oper} {cs : List (Nat × Nat × Value)} {v : Value} {H : AHeap} (h : ROk P N o t cs v) (hc : ∀ c ∈ cs, hcell H c.1 c.2.1 = some c.2.2) : OpOk P N o t H v H := fun W φ w a hs he => by
  obtain ⟨v', h1, h2⟩ := h (hcell H) φ w a hc (fun i o c L hL e => cell_ok hs hL e) (fun k v e => he.get k v e)
  exact Does.of_value h1 ⟨φ, hs, h2, Step.refl _ _ _⟩
theorem s_convBS {src dst e : TypeId} {x : Operand} {i : Nat} {b : Int} {H : AHeap} (hs : P.underlying src = some (.slice e)) (he : P.underlying e = some (.int .u8)) (hd : P.underlying dst = some .string) (hx : aEv t x = some (.slice (some ⟨i, 0, none⟩) 1 1)) (hc : hcell H i 0 = some (.int .u8 b)) :
    OpOk P N ⟨d, .convert src dst x, ty, pos, af, g⟩ t H (.string (strOfNums [b])) H := rok_op (r_convBS hx hs he hd) (fun c h => by rw [List.mem_singleton.1 h]; exact hc)
variable {H : AHeap}
/-- a slice of one-celled values written out -/
theorem s_buildZ {T E : TypeId} {len i : Nat} {ps : List (Nat × Operand)} {vs : List (Nat × Value)} {cs : List Value} {z z0 : Value} {H' : AHeap} (hT : P.underlying T = some (.slice E)) (hm : ∀ w, (sizeOf E).run P w = .ok 1 w) (hz : ∀ w, (zeroValue E).run P w = .ok z w) (hzc : z.cells.toList = [z0]) (hzf : flat0 z0 = true)
    (hp : ps.map (fun p => (p.1, aEv t p.2)) = vs.map (fun p => (p.1, some p.2))) (hlen : len ≤ 16777216) (hcs : partsOf 1 vs ((List.replicate len [z0]).flatten) = some cs) (hl : cs.length = len) (hidx : H.length = i) (hH : H ++ [AObj.row false cs] = H') :
    OpOk P N ⟨d, .buildSlice T len ps.toArray, ty, pos, af, g⟩ t H (.slice (some ⟨i, 0, none⟩) len len) H' := by
  subst hidx hH
  exact m_buildSlice hp hT hm hz (by rw [hzc]; intro c hc; rw [List.mem_singleton.1 hc]; exact hzf) (by rw [← Array.length_toList, hzc]; rfl) Nat.one_pos (by omega) (by rw [hzc]; exact hcs) (by omega)
theorem a_buildZ {T E : TypeId} {len i : Nat} {ps : List (Nat × Operand)} {vs : List (Nat × Value)} {cs : List Value} {z z0 : Value} (hT : P.underlying T = some (.slice E)) (hm : ∀ w, (sizeOf E).run P w = .ok 1 w) (hz : ∀ w, (zeroValue E).run P w = .ok z w) (hzc : z.cells.toList = [z0]) (hzf : flat0 z0 = true)
    (hp : ps.map (fun p => (p.1, aEv t p.2)) = vs.map (fun p => (p.1, some p.2))) (hlen : len ≤ 16777216) (hcs : partsOf 1 vs ((List.replicate len [z0]).flatten) = some cs) (hl : cs.length = len) :
    AOk P N ⟨d, .buildSlice T len ps.toArray, ty, pos, af, g⟩ t cs i (.slice (some ⟨i, 0, none⟩) len len) := by
  exact a_buildSlice hp hT hm hz (by rw [hzc]; intro c hc; rw [List.mem_singleton.1 hc]; exact hzf) (by rw [← Array.length_toList, hzc]; rfl) Nat.one_pos (by omega) (by rw [hzc]; exact hcs) (by omega)
end pure
/-- a call that hands back plain data and leaves what lay as it lay -/
theorem pure_call {P : Program} {f : FuncId} {args : List Value} {H : AHeap} {v : Value} (hv : Flat v)
    (h : ∀ W φ w args', Sim W φ H w → VA φ args args' → Calls P f args' w fun e w' => e = .returned v ∧ Below w.heap.size w w') : ACall P f args H v H := fun W φ w args' hs hva => by
  refine (h W φ w args' hs hva).mono ?_
  rintro e w' ⟨rfl, hb⟩
  obtain ⟨h1, h2⟩ := same_ok hs hb
  exact ⟨v, φ, rfl, h1, V.flat hv, h2⟩
end Go.Proofs.Ytdafmafigcljkaa.Am
