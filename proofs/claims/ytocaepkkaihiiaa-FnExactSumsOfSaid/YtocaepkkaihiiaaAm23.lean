/-
  Orders that are open: what has been done, the last first. No condition.
-/
import Derived.Test.YtocaepkkaihiiaaAm22
namespace Go.Proofs.Ytocaepkkaihiiaa.Am
open Go Go.RowKit
set_option linter.unusedVariables false
set_option linter.unusedSimpArgs false
def DR (P : Program) (N : Nat) (l₀ : List Oper) (t₀ : Env) (H₀ : AHeap) (Q : Exit → Env → AHeap → Prop) (l : List Oper) (t : Env) (H : AHeap) (acc : List Ev) : Prop := DX P N l₀ t₀ H₀ Q l t H acc.reverse
def pairOkR (es : List Ev) (k u : Nat) (lt : Bool) : Prop :=
  match es[k]?, es[u]? with
  | some e, some f => (match e.kd with
    | .read cs => ∀ c ∈ cs, c.1 < f.H.length → hget f.H' c.1 = hget f.H c.1
    | .alloc _ => lt = true → hget f.H' e.H.length = hget f.H e.H.length
    | _ => True)
  | _, _ => True
/-- pairs by their places from the end -/
def pairsAllR (es : List Ev) (n : Nat) : List (Nat × Nat) → Prop
  | [] => True
  | (k, u) :: r => pairOkR es (n - 1 - k) (n - 1 - u) (Nat.blt k u) ∧ pairsAllR es n r
section dx
variable {P : Program} {N : Nat} {l₀ : List Oper} {t₀ : Env} {H₀ : AHeap} {Q : Exit → Env → AHeap → Prop} {l : List Oper} {t : Env} {H : AHeap} {acc : List Ev}
variable {d : Nat} {op : Op} {ty : TypeId} {pos : String} {af : Array Edge} {v : Value}
theorem rev_get {es : List Ev} {k : Nat} (h : k < es.length) : es.reverse[k]? = es[es.length - 1 - k]? := by rw [List.getElem?_reverse h]
theorem pairsR_ok {n : Nat} (hn : acc.length = n) : ∀ {ps : List (Nat × Nat)}, (ps.all fun p => Nat.blt p.1 n && Nat.blt p.2 n) = true → pairsAllR acc n ps → pairsAll acc.reverse ps
  | [], _, _ => trivial
  | (k, u) :: r, hb, h => by
    simp only [List.all_cons, Bool.and_eq_true, Nat.blt_eq] at hb
    refine ⟨?_, pairsR_ok hn hb.2 h.2⟩
    have h1 := h.1
    unfold pairOkR at h1
    unfold pairOk
    rw [rev_get (by omega), rev_get (by omega), hn]
    cases e1 : acc[n - 1 - k]? with
    | none => trivial
    | some e =>
      cases e2 : acc[n - 1 - u]? with
      | none => trivial
      | some f =>
        rw [e1, e2] at h1
        dsimp only at h1 ⊢
        cases hk : e.kd <;> rw [hk] at h1 <;> dsimp only at h1 ⊢
        · exact h1
        · exact fun hlt => h1 (by rw [Nat.blt_eq]; exact hlt)
theorem DR.startS {id : Nat} (wr : List Bool) (hm : P.follows .mixedOrders = true) (st : staticM l l.toArray wr = true) (h : staticM l l.toArray wr = true → DR P N l t H Q l t H []) : AX P N (.region id l.toArray true) t H Q := DX.startS wr hm st h
theorem DR.nil {wr : List Bool} (n : Nat) (ps : List (Nat × Nat)) (st : staticM l₀ l₀.toArray wr = true) (hc : (leAll (acc.reverse.map (·.kd.isWrite)) wr && Nat.beq acc.length n && (ps.all fun p => Nat.blt p.1 n && Nat.blt p.2 n) && ordPsM l₀ (acc.reverse.map fun e => e.kd.isWrite) (acc.reverse.map fun e => e.kd.isRA) ps) = true)
    (hp : pairsAllR acc n ps) (h : Q .normal t H) : DR P N l₀ t₀ H₀ Q [] t H acc := by
  simp only [Bool.and_eq_true] at hc
  obtain ⟨⟨⟨h1, h2⟩, h3⟩, h4⟩ := hc
  exact DX.nilS st h1 (dyn_pairsM ps h4 (pairsR_ok (Nat.eq_of_beq_eq_true h2) h3 hp)) h
theorem DR.p (hd : Nat.blt d N = true) (hs : noSel op = true) (h : PureOk P N ⟨some d, op, ty, pos, af, none⟩ (restr (Oper.looksAt l₀.toArray ⟨some d, op, ty, pos, af, none⟩) t) v)
    (k : DR P N l₀ t₀ H₀ Q l ((d, v) :: t) H (⟨.pure, v, H, H⟩ :: acc)) : DR P N l₀ t₀ H₀ Q (⟨some d, op, ty, pos, af, none⟩ :: l) t H acc := by
  unfold DR at *
  rw [List.reverse_cons] at k
  exact DX.p hd hs h k
theorem DR.pb {b : Bool} (hd : Nat.blt d N = true) (hs : noSel op = true) (h : PureOk P N ⟨some d, op, ty, pos, af, none⟩ (restr (Oper.looksAt l₀.toArray ⟨some d, op, ty, pos, af, none⟩) t) (.bool b))
    (kT : b = true → DR P N l₀ t₀ H₀ Q l ((d, .bool true) :: t) H (⟨.pure, .bool true, H, H⟩ :: acc)) (kF : b = false → DR P N l₀ t₀ H₀ Q l ((d, .bool false) :: t) H (⟨.pure, .bool false, H, H⟩ :: acc)) :
    DR P N l₀ t₀ H₀ Q (⟨some d, op, ty, pos, af, none⟩ :: l) t H acc := by
  unfold DR at *
  simp only [List.reverse_cons] at kT kF
  exact DX.pb hd hs h kT kF
theorem DR.gp {j e : Nat} {want : Bool} (hj : (l₀.toArray[j]?).bind (·.dst) = some e) (hb : eget (restr (Oper.looksAt l₀.toArray ⟨some d, op, ty, pos, af, some (j, want)⟩) t) e = some (.bool want)) (hd : Nat.blt d N = true) (hs : noSel op = true)
    (h : PureOk P N ⟨some d, op, ty, pos, af, some (j, want)⟩ (restr (Oper.looksAt l₀.toArray ⟨some d, op, ty, pos, af, some (j, want)⟩) t) v)
    (k : DR P N l₀ t₀ H₀ Q l ((d, v) :: t) H (⟨.pure, v, H, H⟩ :: acc)) : DR P N l₀ t₀ H₀ Q (⟨some d, op, ty, pos, af, some (j, want)⟩ :: l) t H acc := by
  unfold DR at *
  rw [List.reverse_cons] at k
  exact DX.gp hj hb hd hs h k
theorem DR.gpb {j e : Nat} {want b : Bool} (hj : (l₀.toArray[j]?).bind (·.dst) = some e) (hb : eget (restr (Oper.looksAt l₀.toArray ⟨some d, op, ty, pos, af, some (j, want)⟩) t) e = some (.bool want)) (hd : Nat.blt d N = true) (hs : noSel op = true)
    (h : PureOk P N ⟨some d, op, ty, pos, af, some (j, want)⟩ (restr (Oper.looksAt l₀.toArray ⟨some d, op, ty, pos, af, some (j, want)⟩) t) (.bool b))
    (kT : b = true → DR P N l₀ t₀ H₀ Q l ((d, .bool true) :: t) H (⟨.pure, .bool true, H, H⟩ :: acc)) (kF : b = false → DR P N l₀ t₀ H₀ Q l ((d, .bool false) :: t) H (⟨.pure, .bool false, H, H⟩ :: acc)) :
    DR P N l₀ t₀ H₀ Q (⟨some d, op, ty, pos, af, some (j, want)⟩ :: l) t H acc := by
  unfold DR at *
  simp only [List.reverse_cons] at kT kF
  exact DX.gpb hj hb hd hs h kT kF
theorem DR.gn {j e : Nat} {want : Bool} (hj : (l₀.toArray[j]?).bind (·.dst) = some e) (hb : eget (restr (Oper.looksAt l₀.toArray ⟨some d, op, ty, pos, af, some (j, want)⟩) t) e = some (.bool (!want))) (hd : Nat.blt d N = true) (hs : noSel op = true)
    (k : DR P N l₀ t₀ H₀ Q l ((d, undef) :: t) H (⟨.skip, undef, H, H⟩ :: acc)) : DR P N l₀ t₀ H₀ Q (⟨some d, op, ty, pos, af, some (j, want)⟩ :: l) t H acc := by
  unfold DR at *
  rw [List.reverse_cons] at k
  exact DX.gn hj hb hd hs k
theorem DR.gu {j e : Nat} {want : Bool} (hj : (l₀.toArray[j]?).bind (·.dst) = some e) (hb : eget (restr (Oper.looksAt l₀.toArray ⟨some d, op, ty, pos, af, some (j, want)⟩) t) e = some undef) (hd : Nat.blt d N = true) (hs : noSel op = true)
    (k : DR P N l₀ t₀ H₀ Q l ((d, undef) :: t) H (⟨.skip, undef, H, H⟩ :: acc)) : DR P N l₀ t₀ H₀ Q (⟨some d, op, ty, pos, af, some (j, want)⟩ :: l) t H acc := by
  unfold DR at *
  rw [List.reverse_cons] at k
  exact DX.gu hj hb hd hs k
theorem DR.r {cs : List (Nat × Nat × Value)} (hd : Nat.blt d N = true) (hs : noSel op = true) (h : ROk P N ⟨some d, op, ty, pos, af, none⟩ (restr (Oper.looksAt l₀.toArray ⟨some d, op, ty, pos, af, none⟩) t) cs v)
    (hc : ∀ c ∈ cs, hcell H c.1 c.2.1 = some c.2.2 ∧ Bel H.length c.2.2)
    (k : DR P N l₀ t₀ H₀ Q l ((d, v) :: t) H (⟨.read cs, v, H, H⟩ :: acc)) : DR P N l₀ t₀ H₀ Q (⟨some d, op, ty, pos, af, none⟩ :: l) t H acc := by
  unfold DR at *
  rw [List.reverse_cons] at k
  exact DX.r hd hs h hc k
theorem DR.gr {j e : Nat} {want : Bool} {cs : List (Nat × Nat × Value)} (hj : (l₀.toArray[j]?).bind (·.dst) = some e) (hb : eget (restr (Oper.looksAt l₀.toArray ⟨some d, op, ty, pos, af, some (j, want)⟩) t) e = some (.bool want)) (hd : Nat.blt d N = true) (hs : noSel op = true)
    (h : ROk P N ⟨some d, op, ty, pos, af, some (j, want)⟩ (restr (Oper.looksAt l₀.toArray ⟨some d, op, ty, pos, af, some (j, want)⟩) t) cs v)
    (hc : ∀ c ∈ cs, hcell H c.1 c.2.1 = some c.2.2 ∧ Bel H.length c.2.2)
    (k : DR P N l₀ t₀ H₀ Q l ((d, v) :: t) H (⟨.read cs, v, H, H⟩ :: acc)) : DR P N l₀ t₀ H₀ Q (⟨some d, op, ty, pos, af, some (j, want)⟩ :: l) t H acc := by
  unfold DR at *
  rw [List.reverse_cons] at k
  exact DX.gr hj hb hd hs h hc k
theorem DR.a {cells : List Value} {i : Nat} {H' : AHeap} (hd : Nat.blt d N = true) (hs : noSel op = true) (hi : H.length = i) (hH : H ++ [AObj.row false cells] = H') (h : AOk P N ⟨some d, op, ty, pos, af, none⟩ (restr (Oper.looksAt l₀.toArray ⟨some d, op, ty, pos, af, none⟩) t) cells i v)
    (k : DR P N l₀ t₀ H₀ Q l ((d, v) :: t) H' (⟨.alloc cells, v, H, H'⟩ :: acc)) : DR P N l₀ t₀ H₀ Q (⟨some d, op, ty, pos, af, none⟩ :: l) t H acc := by
  unfold DR at *
  rw [List.reverse_cons] at k
  exact DX.a hd hs hi hH h k
theorem DR.w {H' : AHeap} (hd : Nat.blt d N = true) (hs : noSel op = true) (h : OpOk P N ⟨some d, op, ty, pos, af, none⟩ (restr (Oper.looksAt l₀.toArray ⟨some d, op, ty, pos, af, none⟩) t) H v H') (hl : H.length ≤ H'.length)
    (k : DR P N l₀ t₀ H₀ Q l ((d, v) :: t) H' (⟨.write, v, H, H'⟩ :: acc)) : DR P N l₀ t₀ H₀ Q (⟨some d, op, ty, pos, af, none⟩ :: l) t H acc := by
  unfold DR at *
  rw [List.reverse_cons] at k
  exact DX.w hd hs h hl k
theorem DR.wb {b : Bool} {H' : AHeap} (hd : Nat.blt d N = true) (hs : noSel op = true) (h : OpOk P N ⟨some d, op, ty, pos, af, none⟩ (restr (Oper.looksAt l₀.toArray ⟨some d, op, ty, pos, af, none⟩) t) H (.bool b) H') (hl : H.length ≤ H'.length)
    (kT : b = true → DR P N l₀ t₀ H₀ Q l ((d, .bool true) :: t) H' (⟨.write, .bool true, H, H'⟩ :: acc)) (kF : b = false → DR P N l₀ t₀ H₀ Q l ((d, .bool false) :: t) H' (⟨.write, .bool false, H, H'⟩ :: acc)) :
    DR P N l₀ t₀ H₀ Q (⟨some d, op, ty, pos, af, none⟩ :: l) t H acc := by
  unfold DR at *
  simp only [List.reverse_cons] at kT kF
  exact DX.wb hd hs h hl kT kF
theorem DR.gw {j e : Nat} {want : Bool} {H' : AHeap} (hj : (l₀.toArray[j]?).bind (·.dst) = some e) (hb : eget (restr (Oper.looksAt l₀.toArray ⟨some d, op, ty, pos, af, some (j, want)⟩) t) e = some (.bool want)) (hd : Nat.blt d N = true) (hs : noSel op = true)
    (h : OpOk P N ⟨some d, op, ty, pos, af, some (j, want)⟩ (restr (Oper.looksAt l₀.toArray ⟨some d, op, ty, pos, af, some (j, want)⟩) t) H v H') (hl : H.length ≤ H'.length)
    (k : DR P N l₀ t₀ H₀ Q l ((d, v) :: t) H' (⟨.write, v, H, H'⟩ :: acc)) : DR P N l₀ t₀ H₀ Q (⟨some d, op, ty, pos, af, some (j, want)⟩ :: l) t H acc := by
  unfold DR at *
  rw [List.reverse_cons] at k
  exact DX.gw hj hb hd hs h hl k
theorem DR.s {H' : AHeap} (hs : noSel op = true) (h : OpOk P N ⟨none, op, ty, pos, af, none⟩ (restr (Oper.looksAt l₀.toArray ⟨none, op, ty, pos, af, none⟩) t) H v H') (hl : H.length ≤ H'.length)
    (k : DR P N l₀ t₀ H₀ Q l t H' (⟨.write, v, H, H'⟩ :: acc)) : DR P N l₀ t₀ H₀ Q (⟨none, op, ty, pos, af, none⟩ :: l) t H acc := by
  unfold DR at *
  rw [List.reverse_cons] at k
  exact DX.s hs h hl k
end dx
end Go.Proofs.Ytocaepkkaihiiaa.Am
