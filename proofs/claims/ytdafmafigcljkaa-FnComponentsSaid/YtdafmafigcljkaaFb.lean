/-
  Structs of three numbers; a table of two rows that are read. No condition.
-/
import Derived.Test.YtdafmafigcljkaaK5
namespace Go.Proofs.Ytdafmafigcljkaa.Am
open Go Go.RowKit
set_option linter.unusedVariables false
set_option linter.unusedSimpArgs false

theorem tcell_of {T : Tb} {j : Nat} {p : Option Addr} {c : Nat} {xs : List Int} (e : T[j]? = some (p, c, xs)) : (tcells T)[j]? = some (.slice p xs.length c) := by unfold tcells; rw [List.getElem?_map, e]; rfl
theorem TVw.cons2 {G : AHeap} {p : Option Addr} {c : Nat} {x : List Int} {T : Tb} (h : Vw G p x.length c (ints x)) (k : TVw G T) : TVw G ((p, c, x) :: T) := fun y hy => by
  rcases List.mem_cons.1 hy with rfl | hy
  · exact h
  · exact k y hy
theorem vwT_2 {G : AHeap} {i c c' : Nat} {p q : Option Addr} {X Y : List Int} (h : hget G i = .row false [.slice p X.length c, .slice q Y.length c']) : Vw G (some ⟨i, 0, none⟩) 2 2 (tcells [(p, c, X), (q, c', Y)]) :=
  ⟨.inr ⟨i, 0, rfl, row_lt h⟩, fun _ => rfl, fun j v e => by show hcell G i (0 + j) = _; rw [Nat.zero_add]; exact row_cell h e⟩
section
variable {P : Program} {N : Nat} {t : Env} {d : Option Tmp} {ty : TypeId} {pos : String} {af : Array Edge} {g : Option (Nat × Bool)}
theorem p_build3 {T : TypeId} {fs : Array Field} {f0 f1 f2 : Field} {z0 z1 z2 : Value} {ps : List (Nat × Operand)} {vs : List (Nat × Value)} {cs : List Value} (hT : P.underlying T = some (.struct fs)) (hfs : fs = #[f0, f1, f2]) (ho0 : f0.offset = 0) (ho1 : f1.offset = 1) (ho2 : f2.offset = 2)
    (hm0 : ∀ w, (sizeOf f0.type).run P w = .ok 1 w) (hm1 : ∀ w, (sizeOf f1.type).run P w = .ok 1 w) (hm2 : ∀ w, (sizeOf f2.type).run P w = .ok 1 w) (hz : ∀ w, (zeroValue T).run P w = .ok (.agg #[z0, z1, z2]) w) (hf0 : flat0 z0 = true) (hf1 : flat0 z1 = true) (hf2 : flat0 z2 = true)
    (hp : ps.map (fun p => (p.1, aEv t p.2)) = vs.map (fun p => (p.1, some p.2))) (hlt : (vs.all fun p => Nat.blt p.1 3) = true) (hcs : partsOf 1 vs [z0, z1, z2] = some cs) : PureOk P N ⟨d, .build T ps.toArray, ty, pos, af, g⟩ t (.agg cs.toArray) := by
  intro φ w a he
  obtain ⟨q1, q2⟩ := parts_rel hp he
  obtain ⟨cs', k1, k2, k3⟩ := fill_ok (φ := φ) (m := 1) vs (ps.map fun p => (p.1, a.eval p.2)) [z0, z1, z2] [z0, z1, z2] cs q1 q2 rfl (flat_self (by intro c hc; simp at hc; rcases hc with rfl | rfl | rfl <;> assumption)) hcs
  have hpl : ((fs.mapM fun f => (do pure (f.offset, ← sizeOf f.type) : Sem (Nat × Nat))).run P w) = .ok #[(0, 1), (1, 1), (2, 1)] w := by
    subst hfs; simp [hm0, hm1, hm2, ho0, ho1, ho2]
  have hall : ∀ p ∈ (ps.map fun p => (p.1, a.eval p.2)), ((#[(0, 1), (1, 1), (2, 1)] : Array (Nat × Nat))[p.1]?) = some (p.1 * 1, 1) := by
    intro p hp'
    obtain ⟨i, hi, e⟩ := List.getElem_of_mem hp'
    have hi2 : i < vs.length := by rw [q1]; exact hi
    have h1 := q2 i vs[i] _ (List.getElem?_eq_getElem hi2) (List.getElem?_eq_getElem hi)
    rw [List.all_eq_true] at hlt
    have h2 := hlt _ (List.getElem_mem hi2)
    rw [Nat.blt_eq] at h2
    rw [e] at h1
    rw [← h1.1]
    generalize vs[i].1 = n at h2
    match n, h2 with
    | 0, _ => rfl
    | 1, _ => rfl
    | 2, _ => rfl
  refine ⟨.agg cs'.toArray, ?_, .agg _ _ (by simpa using k2) fun j c c' e e' => k3 j c c' (by simpa using e) (by simpa using e')⟩
  have e1 := (fill_congr (f := fun i => (#[(0, 1), (1, 1), (2, 1)] : Array (Nat × Nat))[i]?) (g := fun i => some (i * 1, 1)) _ ([z0, z1, z2] : List Value).toArray hall).trans k1
  have step : (Instr.build T ((ps.map (fun p => (p.1, a.eval p.2))).toArray)).run P w = .ok (.agg cs'.toArray) w := by
    unfold Instr.build
    simp only [Sem.run_bind, hz, Result.andThen_ok, run_underlying hT, hpl]
    have : (Value.agg #[z0, z1, z2]).cells = ([z0, z1, z2] : List Value).toArray := rfl
    rw [this]
    simp only [e1]
    rfl
  simp only [execOp, Sem.run_bind]
  rw [show (Array.map (fun (x : Nat × Operand) => match x with | (i, x) => (i, a.eval x)) ps.toArray) = (ps.map (fun p => (p.1, a.eval p.2))).toArray from by simp, step]
  rfl
end
end Go.Proofs.Ytdafmafigcljkaa.Am
