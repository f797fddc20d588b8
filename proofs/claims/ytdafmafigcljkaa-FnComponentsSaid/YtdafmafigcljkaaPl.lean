/-
  A pool: memory that is read alone from now on, and shared. Tables whose rows lie in a pool. No condition.
-/
import Derived.Test.YtdafmafigcljkaaK5
import Derived.Test.YtdafmafigcljkaaWAx
namespace Go.Proofs.Ytdafmafigcljkaa.Am
open Go Go.RowKit
set_option linter.unusedVariables false
set_option linter.unusedSimpArgs false

def Pin (F s : Sg) : Prop := ∀ x ∈ s, x ∈ F
def Nd (s : Sg) : Prop := (s.map (·.1)).Nodup
theorem Pin.refl (F : Sg) : Pin F F := fun _ h => h
theorem Pin.trans {F' F s : Sg} (h : Pin F' F) (k : Pin F s) : Pin F' s := fun x hx => h x (k x hx)
theorem Pin.mono {F' F s : Sg} (h : Pin F s) (hF : Pin F' F) : Pin F' s := hF.trans h
theorem Pin.nil {F : Sg} : Pin F [] := fun x h => by cases h
theorem Pin.app {F a b : Sg} (h : Pin F a) (k : Pin F b) : Pin F (a ++ b) := fun x hx => (List.mem_append.1 hx).elim (h x) (k x)
theorem Pin.left {F a b : Sg} (h : Pin F (a ++ b)) : Pin F a := fun x hx => h x (List.mem_append_left _ hx)
theorem Pin.right {F a b : Sg} (h : Pin F (a ++ b)) : Pin F b := fun x hx => h x (List.mem_append_right _ hx)
theorem Nd.nil : Nd [] := List.nodup_nil
theorem Nd.left {a b : Sg} (h : Nd (a ++ b)) : Nd a := by unfold Nd at h ⊢; rw [List.map_append] at h; exact (List.nodup_append.1 h).1
theorem Nd.right {a b : Sg} (h : Nd (a ++ b)) : Nd b := by unfold Nd at h ⊢; rw [List.map_append] at h; exact (List.nodup_append.1 h).2.1
theorem oseg_nd (p : Option Addr) (us : List Value) : Nd (oseg p us) := oseg_nodup p us

/-- rows that lie in a pool, each apart from the others -/
structure PR (F : Sg) (T : Tb) : Prop where
  inn : Pin F (tseg T)
  sb : TSb T
  nd : Nd (tseg T)
/-- a table that lies in a pool -/
structure PT (F : Sg) (p : Option Addr) (c : Nat) (T : Tb) : Prop where
  hd : Pin F (oseg p (tcells T))
  rs : PR F T
  hsb : Sb p T.length c 1
  nd : Nd (oseg p (tcells T) ++ tseg T)
def PA (F : Sg) (T : Tb3) : Prop := ∀ x ∈ T, PT F x.1 x.2.1 x.2.2
structure PT3 (F : Sg) (p : Option Addr) (c : Nat) (T : Tb3) : Prop where
  hd : Pin F (oseg p (tcells3 T))
  rs : PA F T
  hsb : Sb p T.length c 1

theorem PR.mono {F' F : Sg} {T : Tb} (hF : Pin F' F) (h : PR F T) : PR F' T := ⟨hF.trans h.inn, h.sb, h.nd⟩
theorem PT.mono {F' F : Sg} {p : Option Addr} {c : Nat} {T : Tb} (hF : Pin F' F) (h : PT F p c T) : PT F' p c T := ⟨hF.trans h.hd, h.rs.mono hF, h.hsb, h.nd⟩
theorem PA.mono {F' F : Sg} {T : Tb3} (hF : Pin F' F) (h : PA F T) : PA F' T := fun x hx => (h x hx).mono hF
theorem PT3.mono {F' F : Sg} {p : Option Addr} {c : Nat} {T : Tb3} (hF : Pin F' F) (h : PT3 F p c T) : PT3 F' p c T := ⟨hF.trans h.hd, h.rs.mono hF, h.hsb⟩
theorem PR.nil {F : Sg} : PR F [] := ⟨.nil, .nil, .nil⟩
theorem PT.nil {F : Sg} : PT F none 0 [] := ⟨.nil, .nil, .nil, .nil⟩
theorem PA.nil {F : Sg} : PA F [] := fun x h => by cases h
theorem PA.app {F : Sg} {S T : Tb3} (h : PA F S) (k : PA F T) : PA F (S ++ T) := fun x hx => (List.mem_append.1 hx).elim (h x) (k x)
theorem PA.one {F : Sg} {p : Option Addr} {c : Nat} {T : Tb} (h : PT F p c T) : PA F [(p, c, T)] := fun x hx => by rw [List.mem_singleton.1 hx]; exact h
theorem PA.at {F : Sg} {T : Tb3} {j : Nat} {p : Option Addr} {c : Nat} {X : Tb} (h : PA F T) (e : T[j]? = some (p, c, X)) : PT F p c X := h _ (List.mem_of_getElem? e)

section pool
variable {M : List Nat} {H G : AHeap} {L : List Sg} {F r s : Sg} {k n c : Nat} {p : Option Addr} {T X : Tb}
theorem St.poolNew (S : St M H G L) : St M H G (([] : Sg) :: L) := S.nilseg 0
theorem St.poolSeg (S : St M H G (r :: F :: L)) : ∃ F', Pin F' F ∧ Pin F' r ∧ St M H G (F' :: L) :=
  ⟨r ++ F, fun x h => List.mem_append_right _ h, fun x h => List.mem_append_left _ h, S.join2⟩
theorem St.poolNd (S : St M H G (r :: F :: L)) (hs : Pin F s) (hn : Nd s) : Nd (s ++ r) := by
  have n := S.nodup
  rw [List.flatten_cons, List.flatten_cons, List.map_append, List.map_append] at n
  obtain ⟨n1, _, n3⟩ := List.nodup_append.1 n
  unfold Nd at hn ⊢
  rw [List.map_append]
  refine List.nodup_append.2 ⟨hn, n1, fun a ha b hb e => ?_⟩
  obtain ⟨x, hx, rfl⟩ := List.mem_map.1 ha
  exact n3 b hb x.1 (List.mem_append_left _ (List.mem_map.2 ⟨x, hs x hx, rfl⟩)) e.symm
theorem Nd.swap {a b : Sg} (h : Nd (a ++ b)) : Nd (b ++ a) := by
  unfold Nd at h ⊢; exact ((List.perm_append_comm).map _).nodup_iff.1 h
/-- rows of one's own go into the pool, behind others -/
theorem St.poolRows (S : St M H G (tseg X :: F :: L)) (hT : PR F T) (hX : TSb X) : ∃ F', Pin F' F ∧ PR F' (T ++ X) ∧ St M H G (F' :: L) := by
  have hn := S.poolNd hT.inn hT.nd
  obtain ⟨F', h1, h2, S'⟩ := S.poolSeg
  exact ⟨F', h1, ⟨by rw [tseg_app]; exact (h1.trans hT.inn).app h2, hT.sb.app hX, by rw [tseg_app]; exact hn⟩, S'⟩
/-- a header of one's own goes into the pool -/
theorem St.poolHdr (S : St M H G (oseg p (tcells T) :: F :: L)) (hT : PR F T) (hb : Sb p n c 1) (hl : T.length = n) : ∃ F', Pin F' F ∧ PT F' p c T ∧ St M H G (F' :: L) := by
  have hn := S.poolNd hT.inn hT.nd
  obtain ⟨F', h1, h2, S'⟩ := S.poolSeg
  exact ⟨F', h1, ⟨h2, hT.mono h1, hl ▸ hb, hn.swap⟩, S'⟩
theorem St.poolHdr3 {T : Tb3} (S : St M H G (oseg p (tcells3 T) :: F :: L)) (hT : PA F T) (hb : Sb p n c 1) (hl : T.length = n) : ∃ F', Pin F' F ∧ PT3 F' p c T ∧ St M H G (F' :: L) := by
  obtain ⟨F', h1, h2, S'⟩ := S.poolSeg
  exact ⟨F', h1, ⟨h2, hT.mono h1, hl ▸ hb⟩, S'⟩
theorem St.pview {us : List Value} {m : Nat} (S : St M H G L) (h : L[k]? = some F) (hp : Pin F (oseg p us)) (hb : Sb p n c m) (hl : us.length = n * m) : Vw G p n c us := by
  rcases hb with ⟨rfl, rfl, rfl⟩ | ⟨i, rfl, hc⟩
  · obtain rfl : us = [] := List.eq_nil_of_length_eq_zero (by simpa using hl)
    exact .nil
  · have := (S.own _ (S.mem h (hp (i, .row false us) (List.mem_singleton.2 rfl)))).2
    exact ⟨.inr ⟨i, 0, rfl, this.1⟩, fun _ => rfl, fun j v e => by show hcell G i (0 + j) = _; rw [Nat.zero_add]; exact row_cell this.2 e⟩
theorem tseg_mem {T : Tb} {x : Option Addr × Nat × List Int} (hx : x ∈ T) : Pin (tseg T) (oseg x.1 (ints x.2.2)) := fun y hy => List.mem_flatMap.2 ⟨x, hx, hy⟩
theorem St.prview (S : St M H G L) (h : L[k]? = some F) (hT : PR F T) : TVw G T := fun x hx =>
  S.pview h (hT.inn.trans (tseg_mem hx)) (hT.sb x hx) (by rw [ints_length, Nat.mul_one])
theorem St.ptview (S : St M H G L) (h : L[k]? = some F) (hT : PT F p c T) (hl : T.length = n) : Vw G p n c (tcells T) :=
  S.pview h hT.hd (hl ▸ hT.hsb) (by rw [tcells_len, Nat.mul_one, hl])
theorem St.pt3view {T : Tb3} (S : St M H G L) (h : L[k]? = some F) (hT : PT3 F p c T) (hl : T.length = n) : Vw G p n c (tcells3 T) :=
  S.pview h hT.hd (hl ▸ hT.hsb) (by unfold tcells3; rw [List.length_map, Nat.mul_one, hl])
theorem St.paview {T : Tb3} (S : St M H G L) (h : L[k]? = some F) (hT : PA F T) : TVw3 G T := fun x hx => ⟨S.ptview h (hT x hx) rfl, S.prview h (hT x hx).rs⟩
theorem PT.ne (h : PT F p c T) : c ≠ capE := h.hsb.ne rfl
/-- a table taken out of the pool, as one's own -/
theorem perm_pin : ∀ (s F : Sg), Nd s → Pin F s → ∃ R, F.Perm (s ++ R)
  | [], F, _, _ => ⟨F, .refl _⟩
  | x :: s, F, hn, hp => by
    obtain ⟨A, B, rfl⟩ := List.append_of_mem (hp x (List.mem_cons_self ..))
    have hn' : Nd s := by unfold Nd at hn ⊢; exact (List.nodup_cons.1 hn).2
    obtain ⟨R, hR⟩ := perm_pin s (A ++ B) hn' fun y hy => by
      have h1 := hp y (List.mem_cons_of_mem _ hy)
      have h2 : y ≠ x := fun e => by
        unfold Nd at hn
        exact (List.nodup_cons.1 hn).1 (List.mem_map.2 ⟨y, hy, by rw [e]⟩)
      rcases List.mem_append.1 h1 with h1 | h1
      · exact List.mem_append_left _ h1
      · rcases List.mem_cons.1 h1 with h1 | h1
        · exact absurd h1 h2
        · exact List.mem_append_right _ h1
    exact ⟨R, List.perm_middle.trans (hR.cons x)⟩
theorem St.thaw (S : St M H G (F :: L)) (hT : PT F p c T) : St M H G (oseg p (tcells T) :: tseg T :: L) := by
  obtain ⟨R, hR⟩ := perm_pin _ _ hT.nd (hT.hd.app hT.rs.inn)
  have S1 : St M H G ([oseg p (tcells T) ++ tseg T, R] ++ L) := S.perm (by simpa using List.Perm.append_right _ hR)
  refine S1.forget (fun _ h => h) ?_
  simp only [List.cons_append, List.nil_append, List.flatten_cons, List.append_assoc]
  exact List.Sublist.append_left (List.Sublist.append_left (List.sublist_append_right _ _) _) _
theorem sb_tlen {R : List (List Int)} (hT : trows T = R) (h : Sb p T.length c 1) : Sb p R.length c 1 := tlen hT ▸ h
theorem PT.isNone {R : List (List Int)} (h : PT F p c T) (hT : trows T = R) (nl : R = [] → p = none) : p.isNone = decide (R = []) := by
  by_cases e : R = []
  · rw [nl e, decide_eq_true e]; rfl
  · rw [h.hsb.at (by rw [tlen hT]; exact List.length_pos_iff.2 e), decide_eq_false e]; rfl
/-- memory handed over, in parts -/
theorem St.initF {A : List Sg} (hn : (A.flatten.map (·.1)).Nodup) (ho : ∀ x ∈ A.flatten, x.1 < H.length ∧ hget H x.1 = x.2) : St (A.flatten.map (·.1)) H H A :=
  ⟨Nat.le_refl _, fun _ _ _ => rfl, hn, fun x hx => ⟨.inl (List.mem_map.2 ⟨x, hx, rfl⟩), ho x hx⟩⟩
theorem St.fnodup {A : List Sg} (S : St M H G (A ++ L)) : (A.flatten.map (·.1)).Nodup := by
  have n := S.nodup
  rw [List.flatten_append, List.map_append] at n
  exact (List.nodup_append.1 n).1
theorem St.fmem {A : List Sg} (S : St M H G (A ++ L)) : ∀ x ∈ A.flatten, x.1 < G.length ∧ hget G x.1 = x.2 := fun x hx => (S.own x (by rw [List.flatten_append]; exact List.mem_append_left _ hx)).2
/-- rows of arrays that lie in a pool -/
structure PW (F : Sg) (p : Option Addr) (c m : Nat) (rs : List (List Int)) : Prop where
  hd : Pin F (oseg p (ints rs.flatten))
  hsb : Sb p rs.length c m
  all : All m rs
theorem PW.mono {F' F : Sg} {p : Option Addr} {c m : Nat} {rs : List (List Int)} (hF : Pin F' F) (h : PW F p c m rs) : PW F' p c m rs := ⟨hF.trans h.hd, h.hsb, h.all⟩
theorem PW.nil {F : Sg} {m : Nat} : PW F none 0 m [] := ⟨.nil, .nil, all_nil⟩
theorem St.poolW {m : Nat} {rs : List (List Int)} (S : St M H G (oseg p (ints rs.flatten) :: F :: L)) (hb : Sb p n c m) (hl : rs.length = n) (hA : All m rs) : ∃ F', Pin F' F ∧ PW F' p c m rs ∧ St M H G (F' :: L) := by
  obtain ⟨F', h1, h2, S'⟩ := S.poolSeg
  exact ⟨F', h1, ⟨h2, hl ▸ hb, hA⟩, S'⟩
theorem St.pwview {m : Nat} {rs : List (List Int)} (S : St M H G L) (h : L[k]? = some F) (hp : PW F p c m rs) : Vw G p rs.length c (ints rs.flatten) := S.pview h hp.hd hp.hsb (flat_len1 hp.all rfl)
end pool
theorem nil_pos2 {α : Type} {x : List α} {β : Prop} (h : 0 < x.length) (e : x = []) : β := by subst e; exact absurd h (by simp)
theorem bel_fn {n : Nat} {f : Fn} {cs : List Value} (h : ∀ v ∈ cs, Bel n v) : Bel n (.func f #[] cs.toArray) :=
  .func f _ _ (fun i v e => by simp at e) (fun i v e => h v (by simpa using Array.mem_of_getElem? e))
theorem tcells3_one {T : Tb3} : ∀ v ∈ tcells3 T, oneCell v = true := by
  intro v h
  obtain ⟨x, _, rfl⟩ := List.mem_map.1 h
  rfl
theorem tcells3_app (S T : Tb3) : tcells3 (S ++ T) = tcells3 S ++ tcells3 T := List.map_append
theorem trows3_apps {S T : Tb3} {R Q : List (List (List Int))} (h : trows3 S = R) (k : trows3 T = Q) : trows3 (S ++ T) = R ++ Q := by subst h k; exact List.map_append
/-! slices of tables of one's own -/
def t3seg (T : Tb3) : Sg := T.flatMap fun x => oseg x.1 (tcells x.2.2) ++ tseg x.2.2
def TSb3 (T : Tb3) : Prop := ∀ x ∈ T, Sb x.1 x.2.2.length x.2.1 1 ∧ TSb x.2.2
theorem TSb3.nil : TSb3 [] := fun x h => by cases h
theorem TSb3.app {S T : Tb3} (h : TSb3 S) (k : TSb3 T) : TSb3 (S ++ T) := fun x hx => (List.mem_append.1 hx).elim (h x) (k x)
theorem TSb3.one {p : Option Addr} {c n : Nat} {T : Tb} (h : Sb p n c 1) (hl : T.length = n) (k : TSb T) : TSb3 [(p, c, T)] := fun x hx => by rw [List.mem_singleton.1 hx]; exact ⟨hl ▸ h, k⟩
theorem t3seg_app (S T : Tb3) : t3seg (S ++ T) = t3seg S ++ t3seg T := List.flatMap_append
section t3
variable {M : List Nat} {H G : AHeap} {L : List Sg} {T T' : Tb3} {k : Nat}
theorem St.t3merge (S : St M H G (t3seg T :: t3seg T' :: L)) : St M H G (t3seg (T ++ T') :: L) := S.same (by simp [t3seg_app])
theorem St.t3one {p : Option Addr} {X : Tb} (S : St M H G (oseg p (tcells X) :: tseg X :: L)) (c : Nat) : St M H G (t3seg [(p, c, X)] :: L) := S.same (by simp [t3seg])
theorem t3_pin {T : Tb3} {x : Option Addr × Nat × Tb} (hx : x ∈ T) : Pin (t3seg T) (oseg x.1 (tcells x.2.2) ++ tseg x.2.2) := fun y hy => List.mem_flatMap.2 ⟨x, hx, hy⟩
theorem St.oviewT3 (S : St M H G L) (h : L[k]? = some (t3seg T)) (hb : TSb3 T) : TVw3 G T := fun x hx => by
  refine ⟨S.pview h (t3_pin hx).left (hb x hx).1 (by rw [tcells_len, Nat.mul_one]), fun y hy => S.pview h ((t3_pin hx).right.trans (tseg_mem hy)) ((hb x hx).2 y hy) (by rw [ints_length, Nat.mul_one])⟩
def t3seg2 (T : Tb3) (j : Nat) : Sg := t3seg (T.take j) ++ t3seg (T.drop (j + 1))
theorem t3seg_at {j : Nat} {x : Option Addr × Nat × Tb} (h : T[j]? = some x) : t3seg T = t3seg (T.take j) ++ ((oseg x.1 (tcells x.2.2) ++ tseg x.2.2) ++ t3seg (T.drop (j + 1))) ∧
    ∀ y, t3seg (T.set j y) = t3seg (T.take j) ++ ((oseg y.1 (tcells y.2.2) ++ tseg y.2.2) ++ t3seg (T.drop (j + 1))) := by
  have hk : j < T.length := (List.getElem?_eq_some_iff.1 h).1
  have hs : T[j] = x := (List.getElem?_eq_some_iff.1 h).2
  have e : T = T.take j ++ x :: T.drop (j + 1) := by
    have := (List.take_append_drop j T).symm
    rwa [List.drop_eq_getElem_cons hk, hs] at this
  refine ⟨?_, fun y => ?_⟩
  · conv => lhs; rw [e]
    unfold t3seg; rw [List.flatMap_append, List.flatMap_cons]
  · rw [List.set_eq_take_append_cons_drop, if_pos hk]; unfold t3seg; rw [List.flatMap_append, List.flatMap_cons]
theorem perm_mid {α : Type} (a b c d : List α) : (a ++ (b ++ c) ++ d).Perm (b ++ (a ++ c ++ d)) := by
  simp only [List.append_assoc]
  exact List.perm_append_comm_assoc a b (c ++ d)
theorem St.t3out {j c : Nat} {p : Option Addr} {X : Tb} (S : St M H G (t3seg T :: L)) (e : T[j]? = some (p, c, X)) : St M H G (oseg p (tcells X) :: tseg X :: t3seg2 T j :: L) := by
  refine S.perm ?_
  rw [List.flatten_cons, List.flatten_cons, List.flatten_cons, List.flatten_cons, (t3seg_at e).1]
  have := perm_mid (t3seg (T.take j)) (oseg p (tcells X) ++ tseg X) (t3seg (T.drop (j + 1))) L.flatten
  unfold t3seg2
  simpa [List.append_assoc] using this
theorem St.t3in {j c : Nat} {p : Option Addr} {X X' : Tb} (S : St M H G (oseg p (tcells X') :: tseg X' :: t3seg2 T j :: L)) (e : T[j]? = some (p, c, X)) : St M H G (t3seg (T.set j (p, c, X')) :: L) := by
  refine S.perm ?_
  rw [List.flatten_cons, List.flatten_cons, List.flatten_cons, List.flatten_cons, (t3seg_at e).2]
  have := (perm_mid (t3seg (T.take j)) (oseg p (tcells X') ++ tseg X') (t3seg (T.drop (j + 1))) L.flatten).symm
  unfold t3seg2
  simpa [List.append_assoc] using this
theorem tcells3_set {j c : Nat} {p : Option Addr} {X X' : Tb} (e : T[j]? = some (p, c, X)) (hl : X'.length = X.length) : tcells3 (T.set j (p, c, X')) = tcells3 T := by
  unfold tcells3; rw [List.map_set]
  apply List.ext_getElem?
  intro i
  rw [List.getElem?_set]
  split
  · rename_i h; subst h
    have hj := (List.getElem?_eq_some_iff.1 e).1
    rw [if_pos (by rw [List.length_map]; exact hj), List.getElem?_map, e]
    show some (Value.slice p X'.length c) = some (.slice p X.length c)
    rw [hl]
  · rfl
theorem trows3_set {R : List (List (List Int))} {Q : List (List Int)} {j c : Nat} {p : Option Addr} {X : Tb} (h : trows3 T = R) (k : trows X = Q) : trows3 (T.set j (p, c, X)) = R.set j Q := by
  subst h k; unfold trows3; rw [List.map_set]
theorem TSb3.at {j c : Nat} {p : Option Addr} {X : Tb} (h : TSb3 T) (e : T[j]? = some (p, c, X)) : Sb p X.length c 1 ∧ TSb X := h _ (List.mem_of_getElem? e)
theorem TSb3.set {j c : Nat} {p : Option Addr} {X X' : Tb} (h : TSb3 T) (e : T[j]? = some (p, c, X)) (hl : X'.length = X.length) (k : TSb X') : TSb3 (T.set j (p, c, X')) := fun x hx => by
  rcases List.mem_or_eq_of_mem_set hx with hx | rfl
  · exact h x hx
  · exact ⟨by show Sb p X'.length c 1; rw [hl]; exact (h.at e).1, k⟩
end t3
end Go.Proofs.Ytdafmafigcljkaa.Am
