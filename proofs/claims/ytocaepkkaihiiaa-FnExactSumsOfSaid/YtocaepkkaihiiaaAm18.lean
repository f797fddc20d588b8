/-
  What a call owns: segments of memory, apart from each other; slices that are read and slices that are owned. No condition.
-/
import Derived.Test.YtocaepkkaihiiaaAm17
namespace Go.Proofs.Ytocaepkkaihiiaa.Am
open Go Go.RowKit
set_option linter.unusedVariables false
set_option linter.unusedSimpArgs false

abbrev Sg := List (Nat × AObj)
/-- From H on: below H's end all is as it was but for M; L lies in G, each number once. -/
structure St (M : List Nat) (H G : AHeap) (L : List Sg) : Prop where
  len : H.length ≤ G.length
  frame : ∀ j, j < H.length → j ∉ M → hget G j = hget H j
  nodup : (L.flatten.map (·.1)).Nodup
  own : ∀ x ∈ L.flatten, (x.1 ∈ M ∨ H.length ≤ x.1) ∧ x.1 < G.length ∧ hget G x.1 = x.2

theorem flat_at {L : List Sg} {k : Nat} {s : Sg} (h : L[k]? = some s) : L.flatten = (L.take k).flatten ++ (s ++ (L.drop (k + 1)).flatten) ∧ (∀ s', (L.set k s').flatten = (L.take k).flatten ++ (s' ++ (L.drop (k + 1)).flatten)) ∧
    (L.eraseIdx k).flatten = (L.take k).flatten ++ (L.drop (k + 1)).flatten := by
  have hk : k < L.length := (List.getElem?_eq_some_iff.1 h).1
  have hs : L[k] = s := (List.getElem?_eq_some_iff.1 h).2
  have e : L = L.take k ++ s :: L.drop (k + 1) := by
    have := (List.take_append_drop k L).symm
    rwa [List.drop_eq_getElem_cons hk, hs] at this
  have hl : (L.take k).length = k := by rw [List.length_take]; omega
  refine ⟨?_, fun s' => ?_, ?_⟩
  · conv => lhs; rw [e]
    rw [List.flatten_append, List.flatten_cons]
  · rw [List.set_eq_take_append_cons_drop, if_pos hk, List.flatten_append, List.flatten_cons]
  · rw [List.eraseIdx_eq_take_drop_succ, List.flatten_append]

section st
variable {M : List Nat} {H G : AHeap} {L : List Sg}
theorem St.nil (H : AHeap) : St [] H H [] := ⟨Nat.le_refl _, fun _ _ _ => rfl, List.nodup_nil, fun x h => by cases h⟩
/-- memory handed over -/
theorem St.init {l : Sg} (hn : (l.map (·.1)).Nodup) (h : ∀ x ∈ l, x.1 < H.length ∧ hget H x.1 = x.2) : St (l.map (·.1)) H H [l] := by
  refine ⟨Nat.le_refl _, fun _ _ _ => rfl, by simpa using hn, fun x hx => ?_⟩
  have hx' : x ∈ l := by simpa using hx
  exact ⟨.inl (List.mem_map.2 ⟨x, hx', rfl⟩), (h x hx').1, (h x hx').2⟩
theorem St.perm {L' : List Sg} (S : St M H G L) (h : L.flatten.Perm L'.flatten) : St M H G L' :=
  ⟨S.len, S.frame, (h.map _).nodup_iff.1 S.nodup, fun x hx => S.own x (h.mem_iff.2 hx)⟩
theorem St.same {L' : List Sg} (S : St M H G L) (h : L.flatten = L'.flatten) : St M H G L' := S.perm (h ▸ .refl _)
theorem St.front (S : St M H G L) (k : Nat) {s : Sg} (h : L[k]? = some s) : St M H G (s :: L.eraseIdx k) := by
  obtain ⟨h1, _, h3⟩ := flat_at h
  refine S.perm ?_
  rw [h1, List.flatten_cons, h3, ← List.append_assoc, ← List.append_assoc]
  exact List.Perm.append_right _ List.perm_append_comm
theorem St.drop (S : St M H G L) (k : Nat) {s : Sg} (h : L[k]? = some s) : St M H G (L.eraseIdx k) := by
  obtain ⟨h1, _, h3⟩ := flat_at h
  have n := S.nodup
  rw [h1] at n
  refine ⟨S.len, S.frame, ?_, fun x hx => S.own x ?_⟩
  · rw [h3, List.map_append]
    rw [List.map_append, List.map_append] at n
    obtain ⟨a, b, c⟩ := List.nodup_append.1 n
    obtain ⟨b1, b2, _⟩ := List.nodup_append.1 b
    exact List.nodup_append.2 ⟨a, b2, fun x hx y hy => c x hx y (List.mem_append_right _ hy)⟩
  · rw [h3] at hx; rw [h1]
    rcases List.mem_append.1 hx with hx | hx
    · exact List.mem_append_left _ hx
    · exact List.mem_append_right _ (List.mem_append_right _ hx)
theorem St.mem (S : St M H G L) {k : Nat} {s : Sg} (h : L[k]? = some s) {x : Nat × AObj} (hx : x ∈ s) : x ∈ L.flatten := by
  rw [(flat_at h).1]; exact List.mem_append_right _ (List.mem_append_left _ hx)
theorem St.get (S : St M H G L) {k : Nat} {i : Nat} {o : AObj} {s : Sg} (h : L[k]? = some ((i, o) :: s)) : hget G i = o := (S.own _ (S.mem h (List.mem_cons_self ..))).2.2
theorem St.lt (S : St M H G L) {k : Nat} {i : Nat} {o : AObj} {s : Sg} (h : L[k]? = some ((i, o) :: s)) : i < G.length := (S.own _ (S.mem h (List.mem_cons_self ..))).2.1
theorem St.new (S : St M H G L) (o : AObj) : ∃ G' i, G.length = i ∧ G ++ [o] = G' ∧ St M H G' ([(i, o)] :: L) := by
  refine ⟨_, _, rfl, rfl, by rw [List.length_append]; have := S.len; omega, fun j hj hm => ?_, ?_, fun x hx => ?_⟩
  · rw [hget_append_lt (by have := S.len; omega)]; exact S.frame j hj hm
  · rw [List.flatten_cons, List.singleton_append, List.map_cons, List.nodup_cons]
    refine ⟨fun hm => ?_, S.nodup⟩
    obtain ⟨x, hx, e⟩ := List.mem_map.1 hm
    have h1 := (S.own x hx).2.1
    have h2 : x.1 = G.length := e
    omega
  · rw [List.flatten_cons, List.singleton_append] at hx
    rcases List.mem_cons.1 hx with rfl | hx
    · exact ⟨.inr S.len, by rw [List.length_append]; exact Nat.lt_succ_self _, hget_len _ _⟩
    · obtain ⟨h1, h2, h3⟩ := S.own x hx
      exact ⟨h1, by rw [List.length_append]; omega, by rw [hget_append_lt h2]; exact h3⟩
/-- one object anew -/
theorem St.upd {L' : List Sg} {A B : Sg} {i : Nat} {o o' : AObj} (S : St M H G L) (h : L.flatten = A ++ (i, o) :: B) (h' : L'.flatten = A ++ (i, o') :: B) : St M H (G.set i o') L' := by
  have n := S.nodup
  have hi := S.own (i, o) (by rw [h]; simp)
  have hne : ∀ x ∈ A ++ B, x.1 ≠ i := by
    intro x hx e
    rw [h, List.map_append, List.map_cons] at n
    obtain ⟨_, b, c⟩ := List.nodup_append.1 n
    rcases List.mem_append.1 hx with hx | hx
    · exact c _ (List.mem_map.2 ⟨x, hx, rfl⟩) i (List.mem_cons_self ..) e
    · exact (List.nodup_cons.1 b).1 (List.mem_map.2 ⟨x, hx, e⟩)
  refine ⟨by rw [List.length_set]; exact S.len, fun j hj hm => ?_, ?_, fun x hx => ?_⟩
  · rw [hget_set_other _ (fun e => ?_)]
    · exact S.frame j hj hm
    · subst e
      rcases hi.1 with hi | hi
      · exact hm hi
      · have hi' : H.length ≤ i := hi
        omega
  · rw [h] at n; rw [h']
    simpa using n
  · rw [h'] at hx
    rcases List.mem_append.1 hx with hx | hx
    · obtain ⟨h1, h2, h3⟩ := S.own x (by rw [h]; exact List.mem_append_left _ hx)
      exact ⟨h1, by rw [List.length_set]; exact h2, by rw [hget_set_other _ (Ne.symm (hne x (List.mem_append_left _ hx)))]; exact h3⟩
    · rcases List.mem_cons.1 hx with rfl | hx
      · exact ⟨hi.1, by rw [List.length_set]; exact hi.2.1, hget_set_same _ hi.2.1⟩
      · obtain ⟨h1, h2, h3⟩ := S.own x (by rw [h]; exact List.mem_append_right _ (List.mem_cons_of_mem _ hx))
        exact ⟨h1, by rw [List.length_set]; exact h2, by rw [hget_set_other _ (Ne.symm (hne x (List.mem_append_right _ hx)))]; exact h3⟩
theorem St.set (S : St M H G L) {k i : Nat} {o : AObj} (h : L[k]? = some [(i, o)]) (o' : AObj) : ∃ G', G.set i o' = G' ∧ St M H G' (L.set k [(i, o')]) := by
  obtain ⟨h1, h2, _⟩ := flat_at h
  exact ⟨_, rfl, S.upd h1 (h2 _)⟩
/-- one object given up -/
theorem St.kill {A B : Sg} {L' : List Sg} {i : Nat} {o : AObj} (S : St M H G L) (h : L.flatten = A ++ (i, o) :: B) (h' : L'.flatten = A ++ B) : St M H (G.set i .dead) L' := by
  have S2 : St M H (G.set i .dead) [A ++ (i, .dead) :: B] := S.upd h (by simp)
  refine ⟨S2.len, S2.frame, ?_, fun x hx => S2.own x ?_⟩
  · have n := S2.nodup
    rw [h']
    simp only [List.flatten_cons, List.flatten_nil, List.append_nil, List.map_append, List.map_cons] at n
    rw [List.map_append]
    obtain ⟨a, b, c⟩ := List.nodup_append.1 n
    exact List.nodup_append.2 ⟨a, (List.nodup_cons.1 b).2, fun x hx y hy => c x hx y (List.mem_cons_of_mem _ hy)⟩
  · rw [h'] at hx
    simp only [List.flatten_cons, List.flatten_nil, List.append_nil]
    rcases List.mem_append.1 hx with hx | hx
    · exact List.mem_append_left _ hx
    · exact List.mem_append_right _ (List.mem_cons_of_mem _ hx)
/-- a call: what it was handed, for what it hands out -/
theorem St.callM {A B : List Sg} {M' : List Nat} {G' : AHeap} (S : St M H G (A ++ L)) (S' : St M' G G' B) (hM : ∀ j ∈ M', j ∈ A.flatten.map (·.1)) : St M H G' (B ++ L) := by
  have n := S.nodup
  rw [List.flatten_append, List.map_append] at n
  obtain ⟨_, nL, nd⟩ := List.nodup_append.1 n
  have hA : ∀ j ∈ M', (j ∈ M ∨ H.length ≤ j) ∧ j < G.length := fun j hj => by
    obtain ⟨x, hx, rfl⟩ := List.mem_map.1 (hM j hj)
    have := S.own x (by rw [List.flatten_append]; exact List.mem_append_left _ hx)
    exact ⟨this.1, this.2.1⟩
  have hL : ∀ x ∈ L.flatten, x.1 ∉ M' ∧ x.1 < G.length ∧ hget G x.1 = x.2 := fun x hx => by
    have := S.own x (by rw [List.flatten_append]; exact List.mem_append_right _ hx)
    exact ⟨fun hm => nd _ (hM _ hm) _ (List.mem_map.2 ⟨x, hx, rfl⟩) rfl, this.2⟩
  refine ⟨Nat.le_trans S.len S'.len, fun j hj hm => ?_, ?_, fun x hx => ?_⟩
  · rw [S'.frame j (Nat.lt_of_lt_of_le hj S.len) (fun h => ?_)]
    · exact S.frame j hj hm
    · rcases (hA j h).1 with h | h
      · exact hm h
      · omega
  · rw [List.flatten_append, List.map_append]
    refine List.nodup_append.2 ⟨S'.nodup, nL, fun a ha b hb e => ?_⟩
    obtain ⟨x, hx, rfl⟩ := List.mem_map.1 ha
    obtain ⟨y, hy, rfl⟩ := List.mem_map.1 hb
    rcases (S'.own x hx).1 with h | h
    · exact (hL y hy).1 (e ▸ h)
    · have h2 := (hL y hy).2.1
      omega
  · rw [List.flatten_append] at hx
    rcases List.mem_append.1 hx with hx | hx
    · obtain ⟨h1, h2, h3⟩ := S'.own x hx
      refine ⟨?_, h2, h3⟩
      rcases h1 with h1 | h1
      · exact (hA _ h1).1
      · exact .inr (Nat.le_trans S.len h1)
    · obtain ⟨h1, h2, h3⟩ := hL x hx
      refine ⟨(S.own x (by rw [List.flatten_append]; exact List.mem_append_right _ hx)).1, Nat.lt_of_lt_of_le h2 S'.len, ?_⟩
      rw [S'.frame _ h2 h1]; exact h3
theorem St.call {B : List Sg} {G' : AHeap} (S : St M H G L) (S' : St [] G G' B) : St M H G' (B ++ L) := St.callM (A := []) S S' (fun j h => by cases h)
theorem St.hold (S : St [] H G L) : ∀ i, i < H.length → hget G i = hget H i := fun i hi => S.frame i hi (by simp)
theorem St.forget {L' : List Sg} {M' : List Nat} (S : St M H G L) (hM : ∀ j ∈ M, j ∈ M') (h : L'.flatten.Sublist L.flatten) : St M' H G L' :=
  ⟨S.len, fun j hj hm => S.frame j hj (fun h => hm (hM j h)), (h.map _).nodup S.nodup, fun x hx => ⟨(S.own x (h.subset hx)).1.imp (hM _) id, (S.own x (h.subset hx)).2⟩⟩
end st

/-! ### slices -/
def blk (p : Option Addr) : Nat := match p with
  | some a => a.block
  | none => 0
def off (p : Option Addr) : Nat := match p with
  | some a => a.off
  | none => 0
def SlIn (G : AHeap) (p : Option Addr) (n c : Nat) : Prop := (p = none ∧ n = 0 ∧ c = 0) ∨ ∃ i o, p = some ⟨i, o, none⟩ ∧ i < G.length
theorem SlIn.bel {G : AHeap} {p : Option Addr} {n c : Nat} (h : SlIn G p n c) : Bel G.length (.slice p n c) := by
  rcases h with ⟨rfl, rfl, rfl⟩ | ⟨i, o, rfl, hi⟩
  · exact .nilSlice
  · exact .slice i o n c hi
/-- A slice value, and the cells that it reads. -/
structure Vw (G : AHeap) (p : Option Addr) (n c : Nat) (vs : List Value) : Prop where
  inn : SlIn G p n c
  at_ : vs ≠ [] → p = some ⟨blk p, off p, none⟩
  get : ∀ (j : Nat) v, vs[j]? = some v → hcell G (blk p) (off p + j) = some v
theorem SlIn.more {H G : AHeap} {p : Option Addr} {n c : Nat} (h : SlIn H p n c) (hl : H.length ≤ G.length) : SlIn G p n c := by
  rcases h with h | ⟨i, o, rfl, hi⟩
  · exact .inl h
  · exact .inr ⟨i, o, rfl, Nat.lt_of_lt_of_le hi hl⟩
theorem hcell_same {H G : AHeap} {i o : Nat} (h : hget G i = hget H i) : hcell G i o = hcell H i o := by unfold hcell; rw [h]
theorem Vw.frame {M : List Nat} {H G : AHeap} {L : List Sg} {p : Option Addr} {n c : Nat} {vs : List Value} (S : St M H G L) (h : Vw H p n c vs) (hM : vs ≠ [] → blk p ∉ M) : Vw G p n c vs :=
  ⟨h.inn.more S.len, h.at_, fun j v e => by
    have h1 := h.get j v e
    rw [hcell_same (S.frame _ (hcell_lt h1) (hM (fun h => by subst h; simp at e)))]; exact h1⟩
theorem St.view {H G : AHeap} {L : List Sg} {p : Option Addr} {n c : Nat} {vs : List Value} (S : St [] H G L) (h : Vw H p n c vs) : Vw G p n c vs := h.frame S (fun _ => by simp)
theorem Vw.nil {G : AHeap} : Vw G none 0 0 [] := ⟨.inl ⟨rfl, rfl, rfl⟩, fun h => absurd rfl h, fun j v h => by simp at h⟩
theorem Vw.sliceIs {G : AHeap} {p : Option Addr} {n c m : Nat} {vs : List Value} (h : Vw G p n c vs) (hl : vs.length = n * m) (hn : 0 < n) (hm : 0 < m) : SliceIs G m (.slice p n c) vs := by
  have hne : vs ≠ [] := fun e => by subst e; have := Nat.mul_pos hn hm; simp at hl; omega
  refine .inl ⟨blk p, off p, n, c, by rw [← h.at_ hne], hl, h.get⟩

def oseg (p : Option Addr) (us : List Value) : Sg := match p with
  | none => []
  | some a => [(a.block, .row false us)]
/-- A slice of one's own: nil, or a block from its first cell on, full or of unknown room. -/
def Sb (p : Option Addr) (n c m : Nat) : Prop := (p = none ∧ n = 0 ∧ c = 0) ∨ ∃ i, p = some ⟨i, 0, none⟩ ∧ (c = capU + m ∨ (c = n ∧ c < capU))
theorem Sb.at {p : Option Addr} {n c m : Nat} (h : Sb p n c m) (hn : 0 < n) : p = some ⟨blk p, 0, none⟩ := by
  rcases h with ⟨_, rfl, _⟩ | ⟨i, rfl, _⟩
  · omega
  · rfl
theorem Sb.nil {m : Nat} : Sb none 0 0 m := .inl ⟨rfl, rfl, rfl⟩
theorem Sb.lit {i n m : Nat} (h : n < capU) : Sb (some ⟨i, 0, none⟩) n n m := .inr ⟨i, rfl, .inr ⟨rfl, h⟩⟩
section own
variable {M : List Nat} {H G : AHeap} {L : List Sg} {p : Option Addr} {n c m k : Nat} {us : List Value}
theorem St.oat (S : St M H G L) (h : L[k]? = some (oseg p us)) (hp : p = some ⟨blk p, 0, none⟩) : hget G (blk p) = .row false us := by
  rw [hp] at h; exact S.get h
theorem St.oview (S : St M H G L) (h : L[k]? = some (oseg p us)) (hb : Sb p n c m) (hl : us.length = n * m) : Vw G p n c us := by
  rcases hb with ⟨rfl, rfl, rfl⟩ | ⟨i, rfl, hc⟩
  · obtain rfl : us = [] := List.eq_nil_of_length_eq_zero (by simpa using hl)
    exact .nil
  · exact ⟨.inr ⟨i, 0, rfl, S.lt h⟩, fun _ => rfl, fun j v e => by show hcell G i (0 + j) = _; rw [Nat.zero_add]; exact row_cell (S.get h) e⟩
theorem St.oin (S : St M H G L) (h : L[k]? = some (oseg p us)) (hb : Sb p n c m) : SlIn G p n c := by
  rcases hb with ⟨rfl, rfl, rfl⟩ | ⟨i, rfl, hc⟩
  · exact .inl ⟨rfl, rfl, rfl⟩
  · exact .inr ⟨i, 0, rfl, S.lt h⟩
theorem St.oset (S : St M H G L) (h : L[k]? = some (oseg p us)) (hp : p = some ⟨blk p, 0, none⟩) (us' : List Value) : ∃ G', G.set (blk p) (.row false us') = G' ∧ St M H G' (L.set k (oseg p us')) := by
  rw [hp] at h ⊢; exact S.set h _
theorem St.buf (S : St M H G L) (h : L[k]? = some (oseg p us)) (hb : Sb p n c m) (hl : us.length = n * m) : Buf 0 G p n c m us := by
  refine ⟨hl, ?_⟩
  rcases hb with hb | ⟨i, rfl, hc⟩
  · exact .inl hb
  · exact .inr ⟨i, rfl, Nat.zero_le _, S.get h, hc⟩
/-- what append does: k elements more -/
def AppR (G : AHeap) (p : Option Addr) (c m : Nat) (us vs : List Value) (k : Nat) (p' : Option Addr) (c' : Nat) (G' : AHeap) : Prop :=
  (k = 0 ∧ vs = [] ∧ p' = p ∧ c' = c ∧ G' = G) ∨ (0 < k ∧ p' = some ⟨G.length, 0, none⟩ ∧ c' = capU + m ∧ G' = kill p G ++ [.row false (us ++ vs)])
theorem St.killO (S : St M H G L) (h : L[k]? = some (oseg p us)) (hb : Sb p n c m) : St M H (Am.kill p G) (L.eraseIdx k) := by
  obtain ⟨h1, _, h3⟩ := flat_at h
  rcases hb with ⟨rfl, _, _⟩ | ⟨i, rfl, _⟩
  · exact S.same (by rw [h1, h3]; rfl)
  · exact S.kill h1 h3
theorem St.app (S : St M H G L) (h : L[k]? = some (oseg p us)) (hb : Sb p n c m) (vs : List Value) (q : Nat) (hq : vs.length = q * m) : ∃ p' c' G', AppR G p c m us vs q p' c' G' ∧ St M H G' (L.set k (oseg p' (us ++ vs))) ∧ Sb p' (n + q) c' m := by
  rcases Nat.eq_zero_or_pos q with rfl | hpos
  · obtain rfl : vs = [] := List.eq_nil_of_length_eq_zero (by simpa using hq)
    refine ⟨p, c, G, .inl ⟨rfl, rfl, rfl, rfl, rfl⟩, S.same ?_, hb⟩
    obtain ⟨h1, h2, _⟩ := flat_at h
    rw [h1, h2, List.append_nil]
  · obtain ⟨G', i, hi, hG, S'⟩ := (S.killO h hb).new (.row false (us ++ vs))
    refine ⟨some ⟨G.length, 0, none⟩, capU + m, G', .inr ⟨hpos, rfl, rfl, hG.symm⟩, S'.perm ?_, .inr ⟨_, rfl, .inl rfl⟩⟩
    rw [kill_length] at hi
    subst hi
    obtain ⟨_, h2, h3⟩ := flat_at h
    rw [List.flatten_cons, h3, h2]
    show ([(G.length, AObj.row false (us ++ vs))] ++ _).Perm (_ ++ ([(G.length, AObj.row false (us ++ vs))] ++ _))
    rw [← List.append_assoc, ← List.append_assoc]
    exact List.Perm.append_right _ List.perm_append_comm
end own
section app
variable {P : Program} {N : Nat} {t : Env} {G : AHeap} {d : Option Tmp} {ty : TypeId} {pos : String} {af : Array Edge} {g : Option (Nat × Bool)}
theorem s_app {sT xT E m by_ n c k cx c' r : Nat} {ti : TypeInfo} {s x : Operand} {p q p' : Option Addr} {us vs : List Value} {z : Value} {G' : AHeap} (hT : P.underlying sT = some (.slice E)) (hX : P.underlying xT = some (.slice E))
    (hi : ∀ w, (typeInfo E).run P w = .ok ti w) (hm : ∀ w, (sizeOf E).run P w = .ok m w) (hz : ∀ w, (zeroValue E).run P w = .ok z w) (hb : ti.bytes = by_) (hzm : z.cells.size = m) (hmU : Nat.blt m 1000000 = true) (hm0 : Nat.blt 0 m = true) (hby : Nat.ble by_ 16384 = true)
    (hs0 : aEv t s = some (.slice p n c)) (hx0 : aEv t x = some (.slice q k cx)) (hB : Buf 0 G p n c m us) (hv : Vw G q k cx vs) (hvl : vs.length = k * m) (hones : ∀ v ∈ vs, oneCell v = true) (hroom : n + k ≤ 4294967296) (ha : AppR G p c m us vs k p' c' G') (hr : n + k = r) :
    OpOk P N ⟨d, .call { callee := .builtin .append, args := #[s, x], argTypes := #[sT, xT] }, ty, pos, af, g⟩ t G (.slice p' r c') G' := by
  subst hr
  have hm0' : 0 < m := by simpa [Nat.blt_eq] using hm0
  have hroom' : roomy (n + k) by_ := ⟨hroom, Nat.le_of_ble_eq_true hby⟩
  rcases ha with ⟨rfl, rfl, rfl, rfl, rfl⟩ | ⟨hk, rfl, rfl, rfl⟩
  · exact m_append_none (us := us) hs0 hx0 hT hX hm
  have hx := hv.sliceIs hvl hk hm0'
  obtain ⟨hul, ⟨rfl, rfl, rfl⟩ | ⟨i, rfl, hbi, hgi, hc⟩⟩ := hB
  · obtain rfl : us = [] := List.eq_nil_of_length_eq_zero (by omega)
    exact m_append_new hs0 hx0 hT hX hi hb hm hz hzm (.inr ⟨rfl, rfl⟩) hx (by decide) (by omega) hroom'
  · have hu : SliceIs G m (.slice (some ⟨i, 0, none⟩) n c) us := .inl ⟨i, 0, n, c, rfl, hul, fun q u e => by rw [Nat.zero_add]; exact row_cell hgi e⟩
    rcases hc with rfl | ⟨rfl, hc⟩
    · exact m_append_u hs0 hx0 hT hX hi hb hm hz hzm hgi hu hx hones hroom' hmU
    · have := (m_append_new (N := N) (d := d) (ty := ty) (pos := pos) (af := af) (g := g) hs0 hx0 hT hX hi hb hm hz hzm hu hx hc (by omega) hroom').killed i
      have hlt := row_lt hgi
      rw [List.set_append_left _ _ hlt] at this
      exact this
end app

/-! ### tables -/
abbrev Tb := List (Option Addr × Nat × List Int)
def thdr (x : Option Addr × Nat × List Int) : Value := .slice x.1 x.2.2.length x.2.1
def tcells (T : Tb) : List Value := T.map thdr
def trows (T : Tb) : List (List Int) := T.map (·.2.2)
def tseg (T : Tb) : Sg := T.flatMap fun x => oseg x.1 (ints x.2.2)
def TSb (T : Tb) : Prop := ∀ x ∈ T, Sb x.1 x.2.2.length x.2.1 1
def TVw (G : AHeap) (T : Tb) : Prop := ∀ x ∈ T, Vw G x.1 x.2.2.length x.2.1 (ints x.2.2)
theorem tcells_len (T : Tb) : (tcells T).length = T.length := List.length_map _
theorem trows_len (T : Tb) : (trows T).length = T.length := List.length_map _
theorem tlen {T : Tb} {R : List (List Int)} (h : trows T = R) : T.length = R.length := by rw [← h, trows_len]
theorem tcells_app (S T : Tb) : tcells (S ++ T) = tcells S ++ tcells T := List.map_append
theorem trows_app (S T : Tb) : trows (S ++ T) = trows S ++ trows T := List.map_append
theorem tcells_one {T : Tb} : ∀ v ∈ tcells T, oneCell v = true := by
  intro v h
  obtain ⟨x, _, rfl⟩ := List.mem_map.1 h
  rfl
theorem tget {T : Tb} {R : List (List Int)} {j : Nat} (h : trows T = R) (hj : j < R.length) : ∃ p c, T[j]? = some (p, c, rw_ R j) ∧ (tcells T)[j]? = some (.slice p (rw_ R j).length c) := by
  subst h
  rw [trows_len] at hj
  have e : rw_ (trows T) j = T[j].2.2 := by
    unfold rw_ trows; rw [List.getD_eq_getElem?_getD, List.getElem?_map, List.getElem?_eq_getElem hj]; rfl
  refine ⟨T[j].1, T[j].2.1, ?_, ?_⟩
  · rw [e, List.getElem?_eq_getElem hj]
  · unfold tcells; rw [List.getElem?_map, List.getElem?_eq_getElem hj, e]; rfl
theorem TVw.at {G : AHeap} {T : Tb} {j : Nat} {p : Option Addr} {c : Nat} {xs : List Int} (h : TVw G T) (e : T[j]? = some (p, c, xs)) : Vw G p xs.length c (ints xs) := h _ (List.mem_of_getElem? e)
theorem TSb.at {T : Tb} {j : Nat} {p : Option Addr} {c : Nat} {xs : List Int} (h : TSb T) (e : T[j]? = some (p, c, xs)) : Sb p xs.length c 1 := h _ (List.mem_of_getElem? e)
theorem St.tview {H G : AHeap} {L : List Sg} {T : Tb} (S : St [] H G L) (h : TVw H T) : TVw G T := fun x hx => S.view (h x hx)
theorem tseg_at {T : Tb} {j : Nat} {x : Option Addr × Nat × List Int} (h : T[j]? = some x) : tseg T = tseg (T.take j) ++ (oseg x.1 (ints x.2.2) ++ tseg (T.drop (j + 1))) ∧ ∀ y, tseg (T.set j y) = tseg (T.take j) ++ (oseg y.1 (ints y.2.2) ++ tseg (T.drop (j + 1))) := by
  have hk : j < T.length := (List.getElem?_eq_some_iff.1 h).1
  have hs : T[j] = x := (List.getElem?_eq_some_iff.1 h).2
  have e : T = T.take j ++ x :: T.drop (j + 1) := by
    have := (List.take_append_drop j T).symm
    rwa [List.drop_eq_getElem_cons hk, hs] at this
  refine ⟨?_, fun y => ?_⟩
  · conv => lhs; rw [e]
    unfold tseg; rw [List.flatMap_append, List.flatMap_cons]
  · rw [List.set_eq_take_append_cons_drop, if_pos hk]; unfold tseg; rw [List.flatMap_append, List.flatMap_cons]
section tab
variable {M : List Nat} {H G : AHeap} {L : List Sg} {T : Tb} {k j : Nat} {q : Option Addr} {c : Nat} {xs : List Int}
theorem St.tmem (S : St M H G L) (h : L[k]? = some (tseg T)) (hj : T[j]? = some (q, c, xs)) (hq : q = some ⟨blk q, 0, none⟩) : (blk q, AObj.row false (ints xs)) ∈ L.flatten := by
  refine S.mem h ?_
  rw [(tseg_at hj).1]
  refine List.mem_append_right _ (List.mem_append_left _ ?_)
  show _ ∈ oseg q (ints xs)
  rw [hq]; exact List.mem_singleton.2 rfl
theorem St.tat (S : St M H G L) (h : L[k]? = some (tseg T)) (hj : T[j]? = some (q, c, xs)) (hq : q = some ⟨blk q, 0, none⟩) : hget G (blk q) = .row false (ints xs) := (S.own _ (S.tmem h hj hq)).2.2
theorem St.tset (S : St M H G L) (h : L[k]? = some (tseg T)) (hj : T[j]? = some (q, c, xs)) (hq : q = some ⟨blk q, 0, none⟩) (xs' : List Int) :
    ∃ G', G.set (blk q) (.row false (ints xs')) = G' ∧ St M H G' (L.set k (tseg (T.set j (q, c, xs')))) := by
  obtain ⟨h1, h2, _⟩ := flat_at h
  obtain ⟨t1, t2⟩ := tseg_at hj
  have a : ∀ us, oseg q us = [(blk q, .row false us)] := fun us => by rw [hq]; rfl
  refine ⟨_, rfl, S.upd (A := (L.take k).flatten ++ tseg (T.take j)) (B := tseg (T.drop (j + 1)) ++ (L.drop (k + 1)).flatten) (o := .row false (ints xs)) ?_ ?_⟩
  · rw [h1, t1]; show _ ++ ((_ ++ (oseg q (ints xs) ++ _)) ++ _) = _; rw [a]; simp
  · rw [h2, t2]; show _ ++ ((_ ++ (oseg q (ints xs') ++ _)) ++ _) = _; rw [a]; simp
theorem St.oviewT (S : St M H G L) (h : L[k]? = some (tseg T)) (hb : TSb T) : TVw G T := by
  intro x hx
  obtain ⟨j, hj⟩ := List.getElem?_of_mem hx
  obtain ⟨q, c, xs⟩ := x
  have hs := hb.at hj
  rcases hs with ⟨rfl, h0, rfl⟩ | ⟨i, rfl, hc⟩
  · have h0' : xs.length = 0 := h0
    obtain rfl : xs = [] := List.eq_nil_of_length_eq_zero h0'
    exact .nil
  · exact ⟨.inr ⟨i, 0, rfl, (S.own _ (S.tmem h hj rfl)).2.1⟩, fun _ => rfl, fun n v e => by show hcell G i (0 + n) = _; rw [Nat.zero_add]; exact row_cell (S.tat h hj rfl) e⟩
/-- a row is added to a table: header at the front behind its rows -/
theorem St.tadd (S : St M H G (tseg T :: oseg q (ints xs) :: L)) : St M H G (tseg (T ++ [(q, c, xs)]) :: L) :=
  S.same (by simp [tseg])
end tab
theorem TSb.add {T : Tb} {q : Option Addr} {c : Nat} {xs : List Int} (h : TSb T) (hq : Sb q xs.length c 1) : TSb (T ++ [(q, c, xs)]) := fun x hx => by
  rcases List.mem_append.1 hx with hx | hx
  · exact h x hx
  · rw [List.mem_singleton.1 hx]; exact hq
theorem TSb.nil : TSb [] := fun x h => by cases h
theorem TVw.nil {G : AHeap} : TVw G [] := fun x h => by cases h
theorem TSb.set {T : Tb} {j : Nat} {q : Option Addr} {c : Nat} {xs xs' : List Int} (h : TSb T) (e : T[j]? = some (q, c, xs)) (hl : xs'.length = xs.length) : TSb (T.set j (q, c, xs')) := fun x hx => by
  rcases List.mem_or_eq_of_mem_set hx with hx | rfl
  · exact h x hx
  · show Sb q xs'.length c 1; rw [hl]; exact h.at e
theorem trows_set (T : Tb) (j : Nat) (q : Option Addr) (c : Nat) (xs : List Int) : trows (T.set j (q, c, xs)) = (trows T).set j xs := by unfold trows; rw [List.map_set]
theorem tcells_set {T : Tb} {j : Nat} {q : Option Addr} {c : Nat} {xs xs' : List Int} (e : T[j]? = some (q, c, xs)) (hl : xs'.length = xs.length) : tcells (T.set j (q, c, xs')) = tcells T := by
  unfold tcells; rw [List.map_set]
  apply List.ext_getElem?
  intro i
  rw [List.getElem?_set]
  split
  · rename_i h; subst h
    have hj := (List.getElem?_eq_some_iff.1 e).1
    rw [if_pos (by rw [List.length_map]; exact hj), List.getElem?_map, e]
    show some (Value.slice q xs'.length c) = some (.slice q xs.length c)
    rw [hl]
  · rfl
end Go.Proofs.Ytocaepkkaihiiaa.Am
