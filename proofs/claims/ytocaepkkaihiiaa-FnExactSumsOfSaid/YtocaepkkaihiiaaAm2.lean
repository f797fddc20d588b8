/-
  An abstract machine over this model's programs, third part: more operations that look at no memory: places, parts, slices of slices, lengths. No condition.
-/
import Derived.Test.YtocaepkkaihiiaaAm1
namespace Go.Proofs.Ytocaepkkaihiiaa.Am
open Go Go.RowKit
set_option linter.unusedVariables false
set_option linter.unusedSimpArgs false

def offAdd (a : Addr) (n : Nat) : Addr := ⟨a.block, a.off + n, none⟩
theorem add_none (b o n : Nat) : (Addr.mk b o none).add n = ⟨b, o + n, none⟩ := by
  unfold Addr.add; split
  · rename_i h; subst h; rfl
  · rfl

theorem V.inv_ptr {φ : Phi} {i o : Nat} {v' : Value} (h : V φ (.pointer (some ⟨i, o, none⟩)) v') : ∃ L, φ i = some L ∧ v' = .pointer (some ⟨L.block, L.off + o, none⟩) := by
  cases h with | ptr _ _ L h => exact ⟨L, h, rfl⟩
theorem V.inv_slice {φ : Phi} {i o n c : Nat} {v' : Value} (h : V φ (.slice (some ⟨i, o, none⟩) n c) v') (hE : n ≠ 0 ∨ c ≠ capE) :
    ∃ L c', φ i = some L ∧ v' = .slice (some ⟨L.block, L.off + o, none⟩) n c' ∧ (c < capU → c' = c) ∧ (∀ m, c = capU + m → o + c' * m ≤ L.ext) ∧ n ≤ c' := by
  cases h with
  | slice _ _ _ _ L c' h hc hu hn => exact ⟨L, c', h, rfl, hc, hu, hn⟩
  | empty => exact absurd rfl (hE.resolve_left (fun h => h rfl))
theorem V.inv_nilSlice {φ : Phi} {v' : Value} {n c : Nat} (h : V φ (.slice none n c) v') : n = 0 ∧ c = 0 ∧ v' = .slice none 0 0 := by cases h; exact ⟨rfl, rfl, rfl⟩
theorem V.inv_agg {φ : Phi} {cs : Array Value} {v' : Value} (h : V φ (.agg cs) v') : ∃ cs', v' = .agg cs' ∧ cs.size = cs'.size ∧ ∀ (i : Nat) v v', cs[i]? = some v → cs'[i]? = some v' → V φ v v' := by
  cases h with | agg _ cs' h hc => exact ⟨cs', rfl, h, hc⟩
theorem V.inv_tuple {φ : Phi} {cs : Array Value} {v' : Value} (h : V φ (.tuple cs) v') : ∃ cs', v' = .tuple cs' ∧ cs.size = cs'.size ∧ ∀ (i : Nat) v v', cs[i]? = some v → cs'[i]? = some v' → V φ v v' := by
  cases h with | tuple _ cs' h hc => exact ⟨cs', rfl, h, hc⟩
theorem V.inv_func {φ : Phi} {fn : Fn} {fs cs : Array Value} {v' : Value} (h : V φ (.func fn fs cs) v') : ∃ fs' cs', v' = .func fn fs' cs' ∧ fs.size = fs'.size ∧ cs.size = cs'.size ∧
    (∀ (i : Nat) v v', fs[i]? = some v → fs'[i]? = some v' → V φ v v') ∧ (∀ (i : Nat) v v', cs[i]? = some v → cs'[i]? = some v' → V φ v v') := by
  cases h with | func _ _ fs' _ cs' h1 h2 hf hc => exact ⟨fs', cs', rfl, h1, h2, hf, hc⟩

theorem get_pair {cs cs' : Array Value} (h : cs.size = cs'.size) {i : Nat} {v : Value} (e : cs[i]? = some v) : ∃ v', cs'[i]? = some v' := by
  have := (Array.getElem?_eq_some_iff.1 e).1
  exact ⟨cs'[i], Array.getElem?_eq_getElem (by omega)⟩

section pure
variable {P : Program} {N : Nat} {t : Env} {d : Option Tmp} {ty : TypeId} {pos : String} {af : Array Edge} {g : Option (Nat × Bool)}

theorem p_extract {x : Operand} {ix : Nat} {vs : Array Value} {v : Value} (hx : aEv t x = some (.tuple vs)) (hv : vs[ix]? = some v) : PureOk P N ⟨d, .extract x ix, ty, pos, af, g⟩ t v := by
  intro φ w a he
  obtain ⟨vs', e, hs, hc⟩ := (ev_ok he hx).inv_tuple
  obtain ⟨v', hv'⟩ := get_pair hs hv
  exact ⟨v', by simp [execOp, e, Instr.extract, hv'], hc _ _ _ hv hv'⟩

theorem p_nilCheck_ptr {x : Operand} {i o : Nat} (hx : aEv t x = some (.pointer (some ⟨i, o, none⟩))) : PureOk P N ⟨d, .nilCheck x, ty, pos, af, g⟩ t (.pointer (some ⟨i, o, none⟩)) := by
  intro φ w a he
  obtain ⟨L, h, e⟩ := (ev_ok he hx).inv_ptr
  exact ⟨_, by simp [execOp, e], .ptr i o L h⟩

theorem p_fieldAddr {s : TypeId} {x : Operand} {f : Nat} {fs : Array Field} {fd : Field} {i o m : Nat} (hx : aEv t x = some (.pointer (some ⟨i, o, none⟩)))
    (hs : P.underlying s = some (.struct fs)) (hf : fs[f]? = some fd) (hm : ∀ w, (sizeOf fd.type).run P w = .ok m w) (h0 : m ≠ 0) : PureOk P N ⟨d, .fieldAddr s x f, ty, pos, af, g⟩ t (.pointer (some ⟨i, o + fd.offset, none⟩)) := by
  intro φ w a he
  obtain ⟨L, h, e⟩ := (ev_ok he hx).inv_ptr
  refine ⟨.pointer (some ⟨L.block, L.off + (o + fd.offset), none⟩), ?_, .ptr i _ L h⟩
  simp [execOp, e, Instr.fieldAt, run_underlying hs, hf, Instr.sureAddr, fieldPlace, hm, h0, add_none, Nat.add_assoc]

theorem p_indexAddr_arr {T : TypeId} {x y : Operand} {E : TypeId} {len m : Nat} {k : IntKind} {n : Int} {i o : Nat} (hx : aEv t x = some (.pointer (some ⟨i, o, none⟩))) (hy : aEv t y = some (.int k n))
    (hT : P.underlying T = some (.array len E)) (hm : ∀ w, (sizeOf E).run P w = .ok m w) (h0 : 0 ≤ n) (h1 : n < len) : PureOk P N ⟨d, .indexAddr T x y, ty, pos, af, g⟩ t (.pointer (some ⟨i, o + n.toNat * m, none⟩)) := by
  intro φ w a he
  obtain ⟨L, h, e⟩ := (ev_ok he hx).inv_ptr
  refine ⟨.pointer (some ⟨L.block, L.off + (o + n.toNat * m), none⟩), ?_, .ptr i _ L h⟩
  simp [execOp, e, ev_int he hy, Instr.indexAt, asIntOf, run_underlying hT, Instr.sureAddr, h0, h1, hm, add_none, Nat.add_assoc]

theorem p_indexAddr {T : TypeId} {x y : Operand} {E : TypeId} {m : Nat} {k : IntKind} {n : Int} {i o len c : Nat} (hx : aEv t x = some (.slice (some ⟨i, o, none⟩) len c)) (hy : aEv t y = some (.int k n))
    (hT : P.underlying T = some (.slice E)) (hm : ∀ w, (sizeOf E).run P w = .ok m w) (h0 : 0 ≤ n) (h1 : n < len) : PureOk P N ⟨d, .indexAddr T x y, ty, pos, af, g⟩ t (.pointer (some ⟨i, o + n.toNat * m, none⟩)) := by
  intro φ w a he
  obtain ⟨L, c', h, e, _⟩ := (ev_ok he hx).inv_slice (.inl (by omega))
  refine ⟨.pointer (some ⟨L.block, L.off + (o + n.toNat * m), none⟩), ?_, .ptr i _ L h⟩
  simp [execOp, e, ev_int he hy, Instr.indexAt, asIntOf, run_underlying hT, h0, h1, hm, add_none, Nat.add_assoc]

theorem V.part {φ : Phi} {cs cs' : Array Value} (h : cs.size = cs'.size) (hc : ∀ (i : Nat) v v', cs[i]? = some v → cs'[i]? = some v' → V φ v v') (o n : Nat) : V φ (.agg (cs.extract o n)) (.agg (cs'.extract o n)) := by
  refine .agg _ _ (by simp [h]) fun i v v' e e' => ?_
  simp only [Array.getElem?_extract] at e e'
  split at e <;> split at e' <;> first | cases e; done | cases e'; done | skip
  exact hc _ _ _ e e'

/-- A part of a struct or an array that is one cell. -/
theorem p_index {T : TypeId} {x y : Operand} {E : TypeId} {len m : Nat} {k : IntKind} {n : Int} {cs : Array Value} {v : Value} (hx : aEv t x = some (.agg cs)) (hy : aEv t y = some (.int k n))
    (hT : P.underlying T = some (.array len E)) (hm : ∀ w, (sizeOf E).run P w = .ok m w) (hE : ∀ w, (isAgg E).run P w = .ok false w) (h0 : 0 ≤ n) (h1 : n < len) (hv : cs[n.toNat * m]? = some v) : PureOk P N ⟨d, .index T x y, ty, pos, af, g⟩ t v := by
  intro φ w a he
  obtain ⟨cs', e, hs, hc⟩ := (ev_ok he hx).inv_agg
  obtain ⟨v', hv'⟩ := get_pair hs hv
  exact ⟨v', by simp [execOp, e, ev_int he hy, Instr.index, asIntOf, run_underlying hT, h0, h1, hm, part, hE, hv'], hc _ _ _ hv hv'⟩

theorem p_index_str {T : TypeId} {x y : Operand} {k : IntKind} {n : Int} {s : ByteArray} {b : UInt8} (hx : aEv t x = some (.string s)) (hy : aEv t y = some (.int k n))
    (hT : P.underlying T = some .string) (h0 : 0 ≤ n) (hb : s[n.toNat]? = some b) : PureOk P N ⟨d, .index T x y, ty, pos, af, g⟩ t (.int .u8 b.toNat) := by
  intro φ w a he
  exact ⟨.int .u8 b.toNat, by simp [execOp, ev_string he hx, ev_int he hy, Instr.index, asIntOf, run_underlying hT, h0, hb], .int _ _⟩

theorem p_field {T : TypeId} {x : Operand} {f : Nat} {fs : Array Field} {fd : Field} {cs : Array Value} {v : Value} (hx : aEv t x = some (.agg cs))
    (hT : P.underlying T = some (.struct fs)) (hf : fs[f]? = some fd) (hE : ∀ w, (isAgg fd.type).run P w = .ok false w) (hv : cs[fd.offset]? = some v) : PureOk P N ⟨d, .field T x f, ty, pos, af, g⟩ t v := by
  intro φ w a he
  obtain ⟨cs', e, hs, hc⟩ := (ev_ok he hx).inv_agg
  obtain ⟨v', hv'⟩ := get_pair hs hv
  exact ⟨v', by simp [execOp, e, Instr.field, run_underlying hT, hf, asAgg, part, hE, hv'], hc _ _ _ hv hv'⟩

theorem p_len_slice {T : TypeId} {x : Operand} {E : TypeId} {ad : Option Addr} {n c : Nat} (hx : aEv t x = some (.slice ad n c)) (hT : P.underlying T = some (.slice E)) :
    PureOk P N ⟨d, .call { callee := .builtin .len, args := #[x], argTypes := #[T] }, ty, pos, af, g⟩ t (.int .i64 n) := by
  intro φ w a he
  have h := ev_ok he hx
  have e : ∃ ad' c', a.eval x = .slice ad' n c' := by
    generalize a.eval x = u at h
    cases h
    · exact ⟨_, _, rfl⟩
    · exact ⟨_, _, rfl⟩
    · exact ⟨_, _, rfl⟩
  obtain ⟨ad', c', e⟩ := e
  exact ⟨.int .i64 n, by simp [execOp, resolve, invoke, builtin, Builtin.len_, e, run_underlying hT, goInt], .int _ _⟩
theorem p_len_str {T : TypeId} {x : Operand} {s : ByteArray} (hx : aEv t x = some (.string s)) (hT : P.underlying T = some .string) :
    PureOk P N ⟨d, .call { callee := .builtin .len, args := #[x], argTypes := #[T] }, ty, pos, af, g⟩ t (.int .i64 s.size) := by
  intro φ w a he
  exact ⟨.int .i64 s.size, by simp [execOp, resolve, invoke, builtin, Builtin.len_, ev_string he hx, run_underlying hT, goInt], .int _ _⟩
theorem p_min {T : Array TypeId} {x y : Operand} {k : IntKind} {a b r : Int} (hx : aEv t x = some (.int k a)) (hy : aEv t y = some (.int k b)) (hr : (if b < a then b else a) = r) :
    PureOk P N ⟨d, .call { callee := .builtin .min, args := #[x, y], argTypes := T }, ty, pos, af, g⟩ t (.int k r) := by
  intro φ w ac he
  exact ⟨.int k r, by rw [← hr]; simp [execOp, resolve, invoke, builtin, Builtin.min_, Builtin.min2, ev_int he hx, ev_int he hy], .int _ _⟩
theorem p_max {T : Array TypeId} {x y : Operand} {k : IntKind} {a b r : Int} (hx : aEv t x = some (.int k a)) (hy : aEv t y = some (.int k b)) (hr : (if b > a then b else a) = r) :
    PureOk P N ⟨d, .call { callee := .builtin .max, args := #[x, y], argTypes := T }, ty, pos, af, g⟩ t (.int k r) := by
  intro φ w ac he
  exact ⟨.int k r, by rw [← hr]; simp [execOp, resolve, invoke, builtin, Builtin.max_, Builtin.max2, ev_int he hx, ev_int he hy], .int _ _⟩

/-- s[lo:hi] of a slice, hi at most the length (none: the length). -/
theorem p_slice {T : TypeId} {x : Operand} {lo hi : Option Operand} {E : TypeId} {m : Nat} {i o n c l h : Nat} {kl kh : IntKind} (hx : aEv t x = some (.slice (some ⟨i, o, none⟩) n c))
    (hlo : (lo = none ∧ l = 0) ∨ ∃ y, lo = some y ∧ aEv t y = some (.int kl l)) (hhi : (hi = none ∧ h = n) ∨ ∃ y, hi = some y ∧ aEv t y = some (.int kh h))
    (hT : P.underlying T = some (.slice E)) (hm : ∀ w, (sizeOf E).run P w = .ok m w) (h1 : l ≤ h) (h2 : h ≤ n) (h3 : l < n) (hcu : c < capU ∨ c = capU + m) :
    PureOk P N ⟨d, .slice T x lo hi none, ty, pos, af, g⟩ t (.slice (some ⟨i, o + l * m, none⟩) (h - l) (if c < capU then c - l else c)) := by
  intro φ w a he
  obtain ⟨L, c', hL, e, hc, hu, hn⟩ := (ev_ok he hx).inv_slice (.inl (by omega))
  have hne : ¬ (c' = l) := by omega
  refine ⟨.slice (some ⟨L.block, L.off + (o + l * m), none⟩) (h - l) (c' - l), ?_, .slice i (o + l * m) (h - l) _ L (c' - l) hL ?_ ?_ (by omega)⟩
  · have hb1 : h ≤ c' := by omega
    rcases hlo with ⟨rfl, rfl⟩ | ⟨y, rfl, hy⟩ <;> rcases hhi with ⟨rfl, rfl⟩ | ⟨z, rfl, hz⟩
    · simp [execOp, e, Instr.sliceAt, Instr.slice, run_underlying hT, Instr.sliceBounds, hm, add_none, hne, Nat.add_assoc]
    · simp [execOp, e, Instr.sliceAt, Instr.slice, run_underlying hT, Instr.sliceBounds, Instr.sliceBound, asIntOf, ev_int he hz, hm, add_none, hne, Int.ofNat_le.2 hb1, Nat.not_lt.2 hb1, Nat.add_assoc]
    · simp [execOp, e, Instr.sliceAt, Instr.slice, run_underlying hT, Instr.sliceBounds, Instr.sliceBound, asIntOf, ev_int he hy, hm, add_none, hne, Int.ofNat_le.2 h1, Nat.not_lt.2 h1, Nat.add_assoc]
    · simp [execOp, e, Instr.sliceAt, Instr.slice, run_underlying hT, Instr.sliceBounds, Instr.sliceBound, asIntOf, ev_int he hy, ev_int he hz, hm, add_none, hne, hb1, h1, Nat.add_assoc]
  · intro h'
    rcases hcu with hcu | hcu
    · rw [if_pos hcu, hc hcu]
    · rw [if_neg (by omega)] at h'; omega
  · intro m' h'
    rcases hcu with hcu | hcu
    · rw [if_pos hcu] at h'; omega
    · rw [if_neg (by omega)] at h'
      obtain rfl : m' = m := by omega
      have := hu m' hcu
      rw [Nat.sub_mul]
      have h4 : l * m' ≤ c' * m' := Nat.mul_le_mul_right _ (by omega)
      omega

theorem mapM_ok {x : List Operand} {vs : List Value} (h : x.map (aEv t) = vs.map some) {φ : Phi} {a : Act} (he : EnvR φ N t a) : ∀ (i : Nat) v v', vs[i]? = some v → (x.map a.eval)[i]? = some v' → V φ v v' := by
  intro i v v' e e'
  have h1 : (x.map (aEv t))[i]? = (vs.map some)[i]? := by rw [h]
  simp only [List.getElem?_map] at h1 e'
  rw [e] at h1
  cases hx : x[i]? with
  | none => rw [hx] at h1; cases h1
  | some y =>
    rw [hx] at h1 e'
    obtain rfl := Option.some.inj e'
    exact ev_ok he (Option.some.inj h1)
theorem mapM_len {x : List Operand} {vs : List Value} (h : x.map (aEv t) = vs.map some) : vs.length = x.length := by
  have := congrArg List.length h; simpa using this.symm

theorem p_makeFunc {fn : Fn} {first captured : List Operand} {fs cs : List Value} (hf : first.map (aEv t) = fs.map some) (hc : captured.map (aEv t) = cs.map some) :
    PureOk P N ⟨d, .makeFunc fn first.toArray captured.toArray, ty, pos, af, g⟩ t (.func fn fs.toArray cs.toArray) := by
  intro φ w a he
  refine ⟨.func fn (first.map a.eval).toArray (captured.map a.eval).toArray, by simp [execOp, Instr.makeFunc], .func fn _ _ _ _ (by simp [mapM_len hf]) (by simp [mapM_len hc]) ?_ ?_⟩
  · intro i v v' e e'; exact mapM_ok hf he i v v' (by simpa using e) (by simpa using e')
  · intro i v v' e e'; exact mapM_ok hc he i v v' (by simpa using e) (by simpa using e')

end pure
end Go.Proofs.Ytocaepkkaihiiaa.Am
