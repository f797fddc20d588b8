/-
  Tables of bools, as tables of numbers are. No condition.
-/
import Derived.Test.YtdafmafigcljkaaPl
namespace Go.Proofs.Ytdafmafigcljkaa.Am
open Go Go.RowKit
set_option linter.unusedVariables false
set_option linter.unusedSimpArgs false

def rwB (l : List (List Bool)) (i : Nat) : List Bool := l.getD i []
abbrev TbB := List (Option Addr × Nat × List Bool)
def thdrB (x : Option Addr × Nat × List Bool) : Value := .slice x.1 x.2.2.length x.2.1
def tcellsB (T : TbB) : List Value := T.map thdrB
def trowsB (T : TbB) : List (List Bool) := T.map (·.2.2)
def tsegB (T : TbB) : Sg := T.flatMap fun x => oseg x.1 (bls x.2.2)
def TSbB (T : TbB) : Prop := ∀ x ∈ T, Sb x.1 x.2.2.length x.2.1 1
def TVwB (G : AHeap) (T : TbB) : Prop := ∀ x ∈ T, Vw G x.1 x.2.2.length x.2.1 (bls x.2.2)
theorem tcells_lenB (T : TbB) : (tcellsB T).length = T.length := List.length_map _
theorem trows_lenB (T : TbB) : (trowsB T).length = T.length := List.length_map _
theorem tlenB {T : TbB} {R : List (List Bool)} (h : trowsB T = R) : T.length = R.length := by rw [← h, trows_lenB]
theorem tcells_appB (S T : TbB) : tcellsB (S ++ T) = tcellsB S ++ tcellsB T := List.map_append
theorem trows_appB (S T : TbB) : trowsB (S ++ T) = trowsB S ++ trowsB T := List.map_append
theorem tcells_oneB {T : TbB} : ∀ v ∈ tcellsB T, oneCell v = true := by
  intro v h
  obtain ⟨x, _, rfl⟩ := List.mem_map.1 h
  rfl
theorem tgetB {T : TbB} {R : List (List Bool)} {j : Nat} (h : trowsB T = R) (hj : j < R.length) : ∃ p c, T[j]? = some (p, c, rwB R j) ∧ (tcellsB T)[j]? = some (.slice p (rwB R j).length c) := by
  subst h
  rw [trows_lenB] at hj
  have e : rwB (trowsB T) j = T[j].2.2 := by
    unfold rwB trowsB; rw [List.getD_eq_getElem?_getD, List.getElem?_map, List.getElem?_eq_getElem hj]; rfl
  refine ⟨T[j].1, T[j].2.1, ?_, ?_⟩
  · rw [e, List.getElem?_eq_getElem hj]
  · unfold tcellsB; rw [List.getElem?_map, List.getElem?_eq_getElem hj, e]; rfl
theorem TVwB.at {G : AHeap} {T : TbB} {j : Nat} {p : Option Addr} {c : Nat} {xs : List Bool} (h : TVwB G T) (e : T[j]? = some (p, c, xs)) : Vw G p xs.length c (bls xs) := h _ (List.mem_of_getElem? e)
theorem TSbB.at {T : TbB} {j : Nat} {p : Option Addr} {c : Nat} {xs : List Bool} (h : TSbB T) (e : T[j]? = some (p, c, xs)) : Sb p xs.length c 1 := h _ (List.mem_of_getElem? e)
theorem St.tviewB {H G : AHeap} {L : List Sg} {T : TbB} (S : St [] H G L) (h : TVwB H T) : TVwB G T := fun x hx => S.view (h x hx)
theorem tseg_atB {T : TbB} {j : Nat} {x : Option Addr × Nat × List Bool} (h : T[j]? = some x) : tsegB T = tsegB (T.take j) ++ (oseg x.1 (bls x.2.2) ++ tsegB (T.drop (j + 1))) ∧ ∀ y, tsegB (T.set j y) = tsegB (T.take j) ++ (oseg y.1 (bls y.2.2) ++ tsegB (T.drop (j + 1))) := by
  have hk : j < T.length := (List.getElem?_eq_some_iff.1 h).1
  have hs : T[j] = x := (List.getElem?_eq_some_iff.1 h).2
  have e : T = T.take j ++ x :: T.drop (j + 1) := by
    have := (List.take_append_drop j T).symm
    rwa [List.drop_eq_getElem_cons hk, hs] at this
  refine ⟨?_, fun y => ?_⟩
  · conv => lhs; rw [e]
    unfold tsegB; rw [List.flatMap_append, List.flatMap_cons]
  · rw [List.set_eq_take_append_cons_drop, if_pos hk]; unfold tsegB; rw [List.flatMap_append, List.flatMap_cons]
section tab
variable {M : List Nat} {H G : AHeap} {L : List Sg} {T : TbB} {k j : Nat} {q : Option Addr} {c : Nat} {xs : List Bool}
theorem St.tmemB (S : St M H G L) (h : L[k]? = some (tsegB T)) (hj : T[j]? = some (q, c, xs)) (hq : q = some ⟨blk q, 0, none⟩) : (blk q, AObj.row false (bls xs)) ∈ L.flatten := by
  refine S.mem h ?_
  rw [(tseg_atB hj).1]
  refine List.mem_append_right _ (List.mem_append_left _ ?_)
  show _ ∈ oseg q (bls xs)
  rw [hq]; exact List.mem_singleton.2 rfl
theorem St.tatB (S : St M H G L) (h : L[k]? = some (tsegB T)) (hj : T[j]? = some (q, c, xs)) (hq : q = some ⟨blk q, 0, none⟩) : hget G (blk q) = .row false (bls xs) := (S.own _ (S.tmemB h hj hq)).2.2
theorem St.oviewTB (S : St M H G L) (h : L[k]? = some (tsegB T)) (hb : TSbB T) : TVwB G T := by
  intro x hx
  obtain ⟨j, hj⟩ := List.getElem?_of_mem hx
  obtain ⟨q, c, xs⟩ := x
  have hs := hb.at hj
  rcases hs with ⟨rfl, h0, rfl⟩ | ⟨i, rfl, hc⟩
  · have h0' : xs.length = 0 := h0
    obtain rfl : xs = [] := List.eq_nil_of_length_eq_zero h0'
    exact .nil
  · exact ⟨.inr ⟨i, 0, rfl, (S.own _ (S.tmemB h hj rfl)).2.1⟩, fun _ => rfl, fun n v e => by show hcell G i (0 + n) = _; rw [Nat.zero_add]; exact row_cell (S.tatB h hj rfl) e⟩
end tab
theorem TSbB.nil : TSbB [] := fun x h => by cases h
theorem TVwB.nil {G : AHeap} : TVwB G [] := fun x h => by cases h
theorem tc_len1B {T : TbB} {R : List (List Bool)} {n : Nat} (hT : trowsB T = R) (h : R.length = n) : (tcellsB T).length = n * 1 := by rw [tcells_lenB, tlenB hT, h, Nat.mul_one]
section app2
variable {M : List Nat} {H G : AHeap} {L : List Sg}
theorem tseg_appB (S T : TbB) : tsegB (S ++ T) = tsegB S ++ tsegB T := List.flatMap_append
theorem St.tmergeB {T T' : TbB} (S : St M H G (tsegB T :: tsegB T' :: L)) : St M H G (tsegB (T ++ T') :: L) := S.same (by simp [tseg_appB])
theorem TSbB.one {p : Option Addr} {c : Nat} {xs : List Bool} (h : Sb p xs.length c 1) : TSbB [(p, c, xs)] := fun x hx => by rw [List.mem_singleton.1 hx]; exact h
theorem TSbB.app {S T : TbB} (h : TSbB S) (k : TSbB T) : TSbB (S ++ T) := fun x hx => (List.mem_append.1 hx).elim (h x) (k x)
theorem trows_appsB {S T : TbB} {R Q : List (List Bool)} (h : trowsB S = R) (k : trowsB T = Q) : trowsB (S ++ T) = R ++ Q := by rw [trows_appB, h, k]
theorem St.toneB {M : List Nat} {H G : AHeap} {L : List Sg} {s : Sg} (S : St M H G (s :: L)) (p : Option Addr) (c : Nat) (xs : List Bool) (h : s = oseg p (bls xs)) : St M H G (tsegB [(p, c, xs)] :: L) := S.same (by simp [tsegB, h])
end app2
section rules
variable {P : Program} {N : Nat} {t : Env} {H : AHeap} {d : Option Tmp} {ty : TypeId} {pos : String} {af : Array Edge} {g : Option (Nat × Bool)}
theorem s_buildT1B {T E : TypeId} {i n : Nat} {x : Operand} {X : TbB} {p : Option Addr} {c : Nat} {xs : List Bool} {z : Value} {H' : AHeap} (hl : xs.length = n) (hT : P.underlying T = some (.slice E)) (hm : ∀ w, (sizeOf E).run P w = .ok 1 w) (hz : ∀ w, (zeroValue E).run P w = .ok z w) (hzc : z = .slice none 0 0)
    (hx : aEv t x = some (.slice p n c)) (hidx : H.length = i) (hH : H ++ [AObj.row false (tcellsB X)] = H') (hX : X = [(p, c, xs)] := by rfl) :
    OpOk P N ⟨d, .buildSlice T 1 [(0, x)].toArray, ty, pos, af, g⟩ t H (.slice (some ⟨i, 0, none⟩) 1 1) H' := by
  subst hidx hH hzc hX hl
  exact m_buildSlice (vs := [(0, .slice p xs.length c)]) (by simp [hx]) hT hm hz (by intro c hc; simp [Value.cells] at hc; subst hc; rfl) rfl Nat.one_pos (by omega) rfl rfl
theorem a_buildT1B {T E : TypeId} {i n : Nat} {x : Operand} {X : TbB} {p : Option Addr} {c : Nat} {xs : List Bool} {z : Value} (hl : xs.length = n) (hT : P.underlying T = some (.slice E)) (hm : ∀ w, (sizeOf E).run P w = .ok 1 w) (hz : ∀ w, (zeroValue E).run P w = .ok z w) (hzc : z = .slice none 0 0)
    (hx : aEv t x = some (.slice p n c)) (hX : X = [(p, c, xs)] := by rfl) :
    AOk P N ⟨d, .buildSlice T 1 [(0, x)].toArray, ty, pos, af, g⟩ t (tcellsB X) i (.slice (some ⟨i, 0, none⟩) 1 1) := by
  subst hzc hX hl
  exact a_buildSlice (vs := [(0, .slice p xs.length c)]) (by simp [hx]) hT hm hz (by intro c hc; simp [Value.cells] at hc; subst hc; rfl) rfl Nat.one_pos (by omega) rfl rfl
end rules
def TNeB (T : TbB) : Prop := ∀ x ∈ T, x.2.1 ≠ capE
theorem TNeB.at {T : TbB} {j : Nat} {p : Option Addr} {c : Nat} {xs : List Bool} (h : TNeB T) (e : T[j]? = some (p, c, xs)) : c ≠ capE := h _ (List.mem_of_getElem? e)
theorem TSbB.tne {T : TbB} (h : TSbB T) : TNeB T := fun x hx => (h x hx).ne rfl
theorem t_rwB {T : TbB} {R : List (List Bool)} {j : Nat} {p : Option Addr} {c : Nat} {xs : List Bool} (h : trowsB T = R) (e : T[j]? = some (p, c, xs)) : T[j]? = some (p, c, rwB R j) := by
  have : rwB R j = xs := by rw [← h]; simp [rwB, trowsB, List.getD_eq_getElem?_getD, List.getElem?_map, e]
  rw [this]; exact e
theorem t_rwlB {T : TbB} {R : List (List Bool)} {j n : Nat} {p : Option Addr} {c : Nat} {xs : List Bool} (h : trowsB T = R) (e : T[j]? = some (p, c, xs)) (hl : xs.length = n) : (rwB R j).length = n := by
  have : rwB R j = xs := by rw [← h]; simp [rwB, trowsB, List.getD_eq_getElem?_getD, List.getElem?_map, e]
  rw [this]; exact hl
end Go.Proofs.Ytdafmafigcljkaa.Am
