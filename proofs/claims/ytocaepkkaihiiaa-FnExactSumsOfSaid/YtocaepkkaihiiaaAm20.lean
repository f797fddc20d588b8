/-
  More rules in the shape in which the second program prints them. No condition.
-/
import Derived.Test.YtocaepkkaihiiaaAm19
namespace Go.Proofs.Ytocaepkkaihiiaa.Am
open Go Go.RowKit
set_option linter.unusedVariables false
set_option linter.unusedSimpArgs false

section st
variable {M : List Nat} {H G : AHeap} {L : List Sg}
theorem St.keep (S : St M H G L) (n : Nat) : St M H G (L.take n) := S.forget (fun _ h => h) (by
  have : L.flatten = (L.take n).flatten ++ (L.drop n).flatten := by rw [← List.flatten_append, List.take_append_drop]
  rw [this]; exact List.sublist_append_left _ _)
theorem St.cellsEq (S : St M H G L) {k : Nat} {p : Option Addr} {us us' : List Value} (e : us = us') (h : L[k]? = some (oseg p us)) : St M H G (L.set k (oseg p us')) := by
  subst e
  obtain ⟨h1, h2, _⟩ := flat_at h
  exact S.same (by rw [h1, h2])
theorem St.hdr (S : St M H G L) {k : Nat} {p : Option Addr} {us us' : List Value} (e : us = us') (h : L[k]? = some (oseg p us)) : St M H G (L.set k (oseg p us')) := S.cellsEq e h
theorem St.nilseg (S : St M H G L) (k : Nat) : St M H G (L.insertIdx k []) := by
  refine S.same ?_
  induction L generalizing k with
  | nil => cases k <;> simp
  | cons a L ih =>
    cases k with
    | zero => simp
    | succ k =>
      rw [List.insertIdx_succ_cons, List.flatten_cons, List.flatten_cons]
      congr 1
      exact ih ((S.forget (fun _ h => h) (by rw [List.flatten_cons]; exact List.sublist_append_right _ _))) k
theorem tseg_app (S T : Tb) : tseg (S ++ T) = tseg S ++ tseg T := List.flatMap_append
theorem St.tmerge {T T' : Tb} (S : St M H G (tseg T :: tseg T' :: L)) : St M H G (tseg (T ++ T') :: L) := S.same (by simp [tseg_app])
theorem tseg_one (p : Option Addr) (c : Nat) (xs : List Int) {A B : List Sg} : List.flatten (oseg p (ints xs) :: A) = List.flatten (tseg [(p, c, xs)] :: A) := by simp [tseg]
theorem St.join2 {a b : Sg} (S : St M H G (a :: b :: L)) : St M H G ((a ++ b) :: L) := S.same (by simp)
end st
theorem TSb.one {p : Option Addr} {c : Nat} {xs : List Int} (h : Sb p xs.length c 1) : TSb [(p, c, xs)] := fun x hx => by rw [List.mem_singleton.1 hx]; exact h
theorem TSb.app {S T : Tb} (h : TSb S) (k : TSb T) : TSb (S ++ T) := fun x hx => (List.mem_append.1 hx).elim (h x) (k x)
theorem sb_len {α : Type} {xs : List α} {p : Option Addr} {n c m : Nat} (h : xs.length = n) (k : Sb p n c m) : Sb p xs.length c m := h ▸ k
theorem trows_apps {S T : Tb} {R Q : List (List Int)} (h : trows S = R) (k : trows T = Q) : trows (S ++ T) = R ++ Q := by rw [trows_app, h, k]
theorem bls_app (a b : List Bool) : bls a ++ bls b = bls (a ++ b) := by simp [bls]
theorem bls_rep {n : Nat} : bls (List.replicate n false) = List.replicate n (.bool false) := by simp [bls]
theorem len_nilapp {α : Type} {b : List α} {k : Nat} (h : b.length = k) : 0 + k = b.length := by omega
theorem mkcap {n : Int} (h : 0 ≤ n ∧ n ≤ 4294967296) : n.toNat < capU := by unfold capU; omega
theorem all_one {m : Nat} {r : List Int} (h : r.length = m) : All m [r] := fun x hx => by rw [List.mem_singleton.1 hx]; exact h
theorem flat_lt {m k j : Nat} {rs : List (List Int)} (hA : All m rs) (hk : k < rs.length) (hj : j < m) : k * m + j < (ints rs.flatten).length := by
  rw [ints_length, flat_len hA]
  have : (k + 1) * m ≤ rs.length * m := Nat.mul_le_mul_right _ hk
  rw [Nat.add_mul, Nat.one_mul] at this; omega
theorem flat_set {m k j : Nat} {rs : List (List Int)} {x : Int} (hA : All m rs) (hk : k < rs.length) (hj : j < m) : (ints rs.flatten).set (k * m + j) (.int .i64 x) = ints (rs.set k ((rw_ rs k).set j x)).flatten := by
  rw [ints_set]
  congr 1
  apply List.ext_getElem?
  intro q
  have hm : 0 < m := by omega
  have hA2 : All m (rs.set k ((rw_ rs k).set j x)) := hA.set (by rw [List.length_set]; exact rw_len hA hk) k
  have hb : k * m + j < rs.length * m := by have := flat_lt hA hk hj; rw [ints_length, flat_len hA] at this; exact this
  rcases Nat.lt_or_ge q (rs.length * m) with hq | hq
  · have hd : q / m < rs.length := Nat.div_lt_of_lt_mul (by rw [Nat.mul_comm]; exact hq)
    have hqe : q = q / m * m + q % m := by rw [Nat.mul_comm]; exact (Nat.div_add_mod q m).symm
    have hr := Nat.mod_lt q hm
    rw [List.getElem?_set]
    conv => rhs; rw [hqe]
    rw [flat_get hA2 (by rw [List.length_set]; exact hd) hr]
    have e0 : rs.flatten[q]? = (rw_ rs (q / m))[q % m]? := (congrArg (fun z => rs.flatten[z]?) hqe).trans (flat_get hA hd hr)
    by_cases he : q / m = k
    · rw [he, rw_set hk, List.getElem?_set]
      by_cases h2 : q % m = j
      · rw [if_pos (by rw [hqe, he, h2]), if_pos h2.symm, if_pos (by rw [flat_len hA]; exact hb), if_pos (by rw [rw_len hA hk]; exact hj)]
      · rw [if_neg (by intro e; rw [← e] at h2 he; apply h2; rw [Nat.mul_comm, Nat.mul_add_mod, Nat.mod_eq_of_lt hj]), if_neg (Ne.symm h2), e0, he]
    · have e1 : rw_ (rs.set k ((rw_ rs k).set j x)) (q / m) = rw_ rs (q / m) := by
        unfold rw_; simp only [List.getD_eq_getElem?_getD, List.getElem?_set_ne (Ne.symm he)]
      rw [e1, if_neg (by intro e; apply he; rw [← e, Nat.mul_comm, Nat.mul_add_div hm, Nat.div_eq_of_lt hj, Nat.add_zero]), e0]
  · rw [List.getElem?_eq_none (by rw [List.length_set, flat_len hA]; exact hq), List.getElem?_eq_none (by rw [flat_len hA2, List.length_set]; exact hq)]
theorem flat_t0 : Flat (.tuple #[]) := .tuple _ (fun i v h => by simp at h)
theorem flat_tl {l : List Value} (h : ∀ v ∈ l, Flat v) : Flat (.tuple l.toArray) := .tuple _ fun i v e => h v (by simpa using Array.mem_of_getElem? e)
theorem flat_t2 {a b : Value} (ha : Flat a) (hb : Flat b) : Flat (.tuple #[a, b]) := flat_tl (l := [a, b]) (by intro v h; simp at h; rcases h with rfl | rfl <;> assumption)
theorem flat_t3 {a b c : Value} (ha : Flat a) (hb : Flat b) (hc : Flat c) : Flat (.tuple #[a, b, c]) := flat_tl (l := [a, b, c]) (by intro v h; simp at h; rcases h with rfl | rfl | rfl <;> assumption)
theorem flat_t4 {a b c d : Value} (ha : Flat a) (hb : Flat b) (hc : Flat c) (hd : Flat d) : Flat (.tuple #[a, b, c, d]) := flat_tl (l := [a, b, c, d]) (by intro v h; simp at h; rcases h with rfl | rfl | rfl | rfl <;> assumption)
theorem appR_len {G : AHeap} {p : Option Addr} {c m : Nat} {us vs : List Value} {k : Nat} {p' : Option Addr} {c' : Nat} {G' : AHeap} (h : AppR G p c m us vs k p' c' G') : G.length ≤ G'.length := by
  rcases h with ⟨_, _, _, _, rfl⟩ | ⟨_, _, _, rfl⟩
  · exact Nat.le_refl _
  · rw [append_len]; omega
theorem ACall.bodyPF {P : Program} {f : FuncId} {fn : Func} {c : Code} {args : List Value} {H : AHeap} {v : Value} {N : Nat} {F : Prop} (t : Env) (hf : P.funcs[f]? = some fn) (hb : fn.body = some c)
    (hN : fn.ntmps = N) (hle : Nat.ble args.length N = true) (ht : envOf args = t) (h : AX P N c t H (fun ex t' H' => (ex = .normal ∨ ex = .ret) ∧ ∃ u, ResOk P N fn t' H' u ∧ u = v ∧ Flat v ∧ (∀ i, i < H.length → hget H' i = hget H i) ∧ F)) : ACall P f args H v H ∧ F := by
  obtain ⟨e, t1, H1, ⟨he, u, hr, rfl, hfl, hk, hF⟩, hw⟩ := h
  exact ⟨ACall.body t hf hb hN hle ht (hw.mono (by rintro _ _ _ ⟨rfl, rfl, rfl⟩; exact ⟨he, u, hr, Fin.drop hfl hk⟩)), hF⟩
section rules
variable {P : Program} {N : Nat} {t : Env} {H : AHeap} {d : Option Tmp} {ty : TypeId} {pos : String} {af : Array Edge} {g : Option (Nat × Bool)}
theorem build0_run {T E : TypeId} {m : Nat} {w : World} (hT : P.underlying T = some (.slice E)) (hm : ∀ w, (sizeOf E).run P w = .ok m w) : (Instr.buildSlice T 0 #[]).run P w = .ok (.slice (some ⟨w.heap.size, 0, none⟩) 0 0) (w.alloc (.cells #[] E)) := by
  have h0 : ∀ f : Nat → Value, (Array.range 0).map f = #[] := fun f => Array.eq_empty_of_size_eq_zero (by simp)
  simp [Instr.buildSlice, run_underlying hT, hm, Instr.fill, newRow, h0]
theorem s_build0 {T E : TypeId} {m i : Nat} {H' : AHeap} {us : List Value} (hT : P.underlying T = some (.slice E)) (hm : ∀ w, (sizeOf E).run P w = .ok m w) (hidx : H.length = i) (hH : H ++ [AObj.row false us] = H') (hus : us = [] := by rfl) :
    OpOk P N ⟨d, .buildSlice T 0 #[], ty, pos, af, g⟩ t H (.slice (some ⟨i, 0, none⟩) 0 0) H' := by
  subst hus hidx hH
  intro W φ w a hs he
  have hrun : (execOp a.eval (⟨d, .buildSlice T 0 #[], ty, pos, af, g⟩ : Oper)).run P w = .ok (.value (.slice (some ⟨w.heap.size, 0, none⟩) 0 0)) (w.alloc (.cells #[] E)) := by
    have e : (#[] : Array (Nat × Operand)).map (fun x => match x with | (i, x) => (i, a.eval x)) = #[] := by simp
    simp only [execOp, Sem.run_bind]
    rw [e, build0_run hT hm]
    simp
  obtain ⟨φ', k1, k2, k3, k4⟩ := alloc_ok hs [] #[] E (Nat.le_refl _) (fun j c c' e => by simp at e)
  refine Does.of_value hrun ⟨φ', k1, .slice _ _ _ _ _ _ k3 (fun _ => rfl) (fun m' h => ?_) (Nat.le_refl _), k2⟩
  unfold capU at h; omega
theorem a_build0 {T E : TypeId} {m i : Nat} (hT : P.underlying T = some (.slice E)) (hm : ∀ w, (sizeOf E).run P w = .ok m w) : AOk P N ⟨d, .buildSlice T 0 #[], ty, pos, af, g⟩ t [] i (.slice (some ⟨i, 0, none⟩) 0 0) := by
  intro φ w a he
  refine ⟨.slice (some ⟨w.heap.size, 0, none⟩) 0 0, #[], E, ?_, Nat.le_refl _, fun j c c' e => by simp at e, fun φ' h _ => .slice _ _ _ _ ⟨w.heap.size, 0, 0⟩ _ h (fun _ => rfl) (fun m' h => ?_) (Nat.le_refl _)⟩
  · have e : (#[] : Array (Nat × Operand)).map (fun x => match x with | (i, x) => (i, a.eval x)) = #[] := by simp
    simp only [execOp, Sem.run_bind]
    rw [e, build0_run hT hm]
    simp
  · unfold capU at h; omega
theorem s_build1 {T E : TypeId} {m i : Nat} {x : Operand} {r : List Int} {z : Value} {zr : List Int} {H' : AHeap} (hT : P.underlying T = some (.slice E)) (hm : ∀ w, (sizeOf E).run P w = .ok m w) (hz : ∀ w, (zeroValue E).run P w = .ok z w) (hzc : z.cells.toList = ints zr) (hzr : zr.length = m)
    (hm0 : 0 < m) (hmb : m ≤ 1000) (hx : aEv t x = some (.agg (ints r).toArray)) (hr : r.length = m) (hidx : H.length = i) (hH : H ++ [AObj.row false (ints [r].flatten)] = H') :
    OpOk P N ⟨d, .buildSlice T 1 [(0, x)].toArray, ty, pos, af, g⟩ t H (.slice (some ⟨i, 0, none⟩) 1 1) H' := by
  subst hidx hH
  have hrep : All m (List.replicate 1 zr) := fun r h => by rw [List.eq_of_mem_replicate h]; exact hzr
  refine m_buildSlice (vs := [(0, .agg (ints r).toArray)]) (by simp [hx]) hT hm hz (by rw [hzc]; exact ints_flat) (by rw [← Array.length_toList, hzc, ints_length]; exact hzr) hm0 (by omega) ?_ ?_
  · rw [hzc, make_cells, parts_row hrep hr (by simp)]; rfl
  · rw [ints_length, flat_len (m := m) (l := [r]) (all_one hr)]; rfl
theorem a_build1 {T E : TypeId} {m i : Nat} {x : Operand} {r : List Int} {z : Value} {zr : List Int} (hT : P.underlying T = some (.slice E)) (hm : ∀ w, (sizeOf E).run P w = .ok m w) (hz : ∀ w, (zeroValue E).run P w = .ok z w) (hzc : z.cells.toList = ints zr) (hzr : zr.length = m)
    (hm0 : 0 < m) (hmb : m ≤ 1000) (hx : aEv t x = some (.agg (ints r).toArray)) (hr : r.length = m) :
    AOk P N ⟨d, .buildSlice T 1 [(0, x)].toArray, ty, pos, af, g⟩ t (ints [r].flatten) i (.slice (some ⟨i, 0, none⟩) 1 1) := by
  have hrep : All m (List.replicate 1 zr) := fun r h => by rw [List.eq_of_mem_replicate h]; exact hzr
  refine a_buildSlice (vs := [(0, .agg (ints r).toArray)]) (by simp [hx]) hT hm hz (by rw [hzc]; exact ints_flat) (by rw [← Array.length_toList, hzc, ints_length]; exact hzr) hm0 (by omega) ?_ ?_
  · rw [hzc, make_cells, parts_row hrep hr (by simp)]; rfl
  · rw [ints_length, flat_len (m := m) (l := [r]) (all_one hr)]; rfl
theorem s_buildT1 {T E : TypeId} {i n : Nat} {x : Operand} {X : Tb} {p : Option Addr} {c : Nat} {xs : List Int} {z : Value} {H' : AHeap} (hl : xs.length = n) (hT : P.underlying T = some (.slice E)) (hm : ∀ w, (sizeOf E).run P w = .ok 1 w) (hz : ∀ w, (zeroValue E).run P w = .ok z w) (hzc : z = .slice none 0 0)
    (hx : aEv t x = some (.slice p n c)) (hidx : H.length = i) (hH : H ++ [AObj.row false (tcells X)] = H') (hX : X = [(p, c, xs)] := by rfl) :
    OpOk P N ⟨d, .buildSlice T 1 [(0, x)].toArray, ty, pos, af, g⟩ t H (.slice (some ⟨i, 0, none⟩) 1 1) H' := by
  subst hidx hH hzc hX hl
  exact m_buildSlice (vs := [(0, .slice p xs.length c)]) (by simp [hx]) hT hm hz (by intro c hc; simp [Value.cells] at hc; subst hc; rfl) rfl Nat.one_pos (by omega) rfl rfl
theorem a_buildT1 {T E : TypeId} {i n : Nat} {x : Operand} {X : Tb} {p : Option Addr} {c : Nat} {xs : List Int} {z : Value} (hl : xs.length = n) (hT : P.underlying T = some (.slice E)) (hm : ∀ w, (sizeOf E).run P w = .ok 1 w) (hz : ∀ w, (zeroValue E).run P w = .ok z w) (hzc : z = .slice none 0 0)
    (hx : aEv t x = some (.slice p n c)) (hX : X = [(p, c, xs)] := by rfl) :
    AOk P N ⟨d, .buildSlice T 1 [(0, x)].toArray, ty, pos, af, g⟩ t (tcells X) i (.slice (some ⟨i, 0, none⟩) 1 1) := by
  subst hzc hX hl
  exact a_buildSlice (vs := [(0, .slice p xs.length c)]) (by simp [hx]) hT hm hz (by intro c hc; simp [Value.cells] at hc; subst hc; rfl) rfl Nat.one_pos (by omega) rfl rfl
end rules
theorem oseg_nodup (p : Option Addr) (us : List Value) : ((oseg p us).map (·.1)).Nodup := by cases p <;> simp [oseg]
/-- strings -/
def sts (l : List ByteArray) : List Value := l.map .string
theorem sts_length (l : List ByteArray) : (sts l).length = l.length := by simp [sts]
theorem sts_len1 {l : List ByteArray} {n : Nat} (h : l.length = n) : (sts l).length = n * 1 := by rw [sts_length, Nat.mul_one]; exact h
theorem sts_app (a b : List ByteArray) : sts a ++ sts b = sts (a ++ b) := by simp [sts]
theorem sts_one {l : List ByteArray} : ∀ v ∈ sts l, oneCell v = true := by
  intro v h
  obtain ⟨x, _, rfl⟩ := List.mem_map.1 h
  rfl
end Go.Proofs.Ytocaepkkaihiiaa.Am
