/-
  Texts joined: Pl, Pw, Ast, Bit, Fb, Src, Rc. Plain Lean. No condition.
-/
import Derived.Test.YtdafmafigcljkaaGreatK5
import Derived.Test.YtdafmafigcljkaaGreatWAx
import Derived.Laws.BytesArg
namespace Go.Proofs.YtdafmafigcljkaaGreat.Am
open Go Go.RowKit
set_option linter.unusedVariables false
set_option linter.unusedSimpArgs false
def Pin (F s : Sg) : Prop := ∀ x ∈ s, x ∈ F
def Nd (s : Sg) : Prop := (s.map (·.1)).Nodup
theorem Pin.refl (F : Sg) : Pin F F := fun _ h => h
theorem Pin.trans {F' F s : Sg} (h : Pin F' F) (k : Pin F s) : Pin F' s := fun x hx => h x (k x hx)
theorem Pin.mono {F' F s : Sg} (h : Pin F s) (hF : Pin F' F) : Pin F' s := hF.trans h
theorem Pin.nil {F : Sg} : Pin F [] := fun x h => by cases h
theorem Pin.app {F a b : Sg} (h : Pin F a) (k : Pin F b) : Pin F (a ++ b) := fun x hx => (List.mem_append.1 hx).elim (h x) (k x)
theorem Pin.right {F a b : Sg} (h : Pin F (a ++ b)) : Pin F b := fun x hx => h x (List.mem_append_right _ hx)
theorem Nd.nil : Nd [] := List.nodup_nil
structure PR (F : Sg) (T : Tb) : Prop where
  inn : Pin F (tseg T)
  sb : TSb T
  nd : Nd (tseg T)
structure PT (F : Sg) (p : Option Addr) (c : Nat) (T : Tb) : Prop where
  hd : Pin F (oseg p (tcells T))
  rs : PR F T
  hsb : Sb p T.length c 1
  nd : Nd (oseg p (tcells T) ++ tseg T)
def PA (F : Sg) (T : Tb3) : Prop := ∀ x ∈ T, PT F x.1 x.2.1 x.2.2
structure PT3 (F : Sg) (p : Option Addr) (c : Nat) (T : Tb3) : Prop where
  hd : Pin F (oseg p (tcells3 T))
  rs : PA F T
  hsb : Sb p T.length c 1
theorem PR.mono {F' F : Sg} {T : Tb} (hF : Pin F' F) (h : PR F T) : PR F' T := ⟨hF.trans h.inn, h.sb, h.nd⟩
theorem PT.mono {F' F : Sg} {p : Option Addr} {c : Nat} {T : Tb} (hF : Pin F' F) (h : PT F p c T) : PT F' p c T := ⟨hF.trans h.hd, h.rs.mono hF, h.hsb, h.nd⟩
theorem PA.mono {F' F : Sg} {T : Tb3} (hF : Pin F' F) (h : PA F T) : PA F' T := fun x hx => (h x hx).mono hF
theorem PT3.mono {F' F : Sg} {p : Option Addr} {c : Nat} {T : Tb3} (hF : Pin F' F) (h : PT3 F p c T) : PT3 F' p c T := ⟨hF.trans h.hd, h.rs.mono hF, h.hsb⟩
theorem PR.nil {F : Sg} : PR F [] := ⟨.nil, .nil, .nil⟩
theorem PT.nil {F : Sg} : PT F none 0 [] := ⟨.nil, .nil, .nil, .nil⟩
theorem PA.nil {F : Sg} : PA F [] := fun x h => by cases h
theorem PA.app {F : Sg} {S T : Tb3} (h : PA F S) (k : PA F T) : PA F (S ++ T) := fun x hx => (List.mem_append.1 hx).elim (h x) (k x)
theorem PA.one {F : Sg} {p : Option Addr} {c : Nat} {T : Tb} (h : PT F p c T) : PA F [(p, c, T)] := fun x hx => by rw [List.mem_singleton.1 hx]; exact h
theorem PA.at {F : Sg} {T : Tb3} {j : Nat} {p : Option Addr} {c : Nat} {X : Tb} (h : PA F T) (e : T[j]? = some (p, c, X)) : PT F p c X := h _ (List.mem_of_getElem? e)
section pool
variable {M : List Nat} {H G : AHeap} {L : List Sg} {F r s : Sg} {k n c : Nat} {p : Option Addr} {T X : Tb}
theorem St.poolNew (S : St M H G L) : St M H G (([] : Sg) :: L) := S.nilseg 0
theorem St.poolSeg (S : St M H G (r :: F :: L)) : ∃ F', Pin F' F ∧ Pin F' r ∧ St M H G (F' :: L) :=
  ⟨r ++ F, fun x h => List.mem_append_right _ h, fun x h => List.mem_append_left _ h, S.join2⟩
theorem St.poolNd (S : St M H G (r :: F :: L)) (hs : Pin F s) (hn : Nd s) : Nd (s ++ r) := by
  have n := S.nodup
  rw [List.flatten_cons, List.flatten_cons, List.map_append, List.map_append] at n
  obtain ⟨n1, _, n3⟩ := List.nodup_append.1 n
  unfold Nd at hn ⊢
  rw [List.map_append]
  refine List.nodup_append.2 ⟨hn, n1, fun a ha b hb e => ?_⟩
  obtain ⟨x, hx, rfl⟩ := List.mem_map.1 ha
  exact n3 b hb x.1 (List.mem_append_left _ (List.mem_map.2 ⟨x, hs x hx, rfl⟩)) e.symm
theorem Nd.swap {a b : Sg} (h : Nd (a ++ b)) : Nd (b ++ a) := by
  unfold Nd at h ⊢; exact ((List.perm_append_comm).map _).nodup_iff.1 h
theorem St.poolRows (S : St M H G (tseg X :: F :: L)) (hT : PR F T) (hX : TSb X) : ∃ F', Pin F' F ∧ PR F' (T ++ X) ∧ St M H G (F' :: L) := by
  have hn := S.poolNd hT.inn hT.nd
  obtain ⟨F', h1, h2, S'⟩ := S.poolSeg
  exact ⟨F', h1, ⟨by rw [tseg_app]; exact (h1.trans hT.inn).app h2, hT.sb.app hX, by rw [tseg_app]; exact hn⟩, S'⟩
theorem St.poolHdr (S : St M H G (oseg p (tcells T) :: F :: L)) (hT : PR F T) (hb : Sb p n c 1) (hl : T.length = n) : ∃ F', Pin F' F ∧ PT F' p c T ∧ St M H G (F' :: L) := by
  have hn := S.poolNd hT.inn hT.nd
  obtain ⟨F', h1, h2, S'⟩ := S.poolSeg
  exact ⟨F', h1, ⟨h2, hT.mono h1, hl ▸ hb, hn.swap⟩, S'⟩
theorem St.poolHdr3 {T : Tb3} (S : St M H G (oseg p (tcells3 T) :: F :: L)) (hT : PA F T) (hb : Sb p n c 1) (hl : T.length = n) : ∃ F', Pin F' F ∧ PT3 F' p c T ∧ St M H G (F' :: L) := by
  obtain ⟨F', h1, h2, S'⟩ := S.poolSeg
  exact ⟨F', h1, ⟨h2, hT.mono h1, hl ▸ hb⟩, S'⟩
theorem St.pview {us : List Value} {m : Nat} (S : St M H G L) (h : L[k]? = some F) (hp : Pin F (oseg p us)) (hb : Sb p n c m) (hl : us.length = n * m) : Vw G p n c us := by
  rcases hb with ⟨rfl, rfl, rfl⟩ | ⟨i, rfl, hc⟩
  · obtain rfl : us = [] := List.eq_nil_of_length_eq_zero (by simpa using hl)
    exact .nil
  · have := (S.own _ (S.mem h (hp (i, .row false us) (List.mem_singleton.2 rfl)))).2
    exact ⟨.inr ⟨i, 0, rfl, this.1⟩, fun _ => rfl, fun j v e => by show hcell G i (0 + j) = _; rw [Nat.zero_add]; exact row_cell this.2 e⟩
theorem tseg_mem {T : Tb} {x : Option Addr × Nat × List Int} (hx : x ∈ T) : Pin (tseg T) (oseg x.1 (ints x.2.2)) := fun y hy => List.mem_flatMap.2 ⟨x, hx, hy⟩
theorem St.prview (S : St M H G L) (h : L[k]? = some F) (hT : PR F T) : TVw G T := fun x hx =>
  S.pview h (hT.inn.trans (tseg_mem hx)) (hT.sb x hx) (by rw [ints_length, Nat.mul_one])
theorem St.ptview (S : St M H G L) (h : L[k]? = some F) (hT : PT F p c T) (hl : T.length = n) : Vw G p n c (tcells T) :=
  S.pview h hT.hd (hl ▸ hT.hsb) (by rw [tcells_len, Nat.mul_one, hl])
theorem St.pt3view {T : Tb3} (S : St M H G L) (h : L[k]? = some F) (hT : PT3 F p c T) (hl : T.length = n) : Vw G p n c (tcells3 T) :=
  S.pview h hT.hd (hl ▸ hT.hsb) (by unfold tcells3; rw [List.length_map, Nat.mul_one, hl])
theorem perm_pin : ∀ (s F : Sg), Nd s → Pin F s → ∃ R, F.Perm (s ++ R)
  | [], F, _, _ => ⟨F, .refl _⟩
  | x :: s, F, hn, hp => by
    obtain ⟨A, B, rfl⟩ := List.append_of_mem (hp x (List.mem_cons_self ..))
    have hn' : Nd s := by unfold Nd at hn ⊢; exact (List.nodup_cons.1 hn).2
    obtain ⟨R, hR⟩ := perm_pin s (A ++ B) hn' fun y hy => by
      have h1 := hp y (List.mem_cons_of_mem _ hy)
      have h2 : y ≠ x := fun e => by
        unfold Nd at hn
        exact (List.nodup_cons.1 hn).1 (List.mem_map.2 ⟨y, hy, by rw [e]⟩)
      rcases List.mem_append.1 h1 with h1 | h1
      · exact List.mem_append_left _ h1
      · rcases List.mem_cons.1 h1 with h1 | h1
        · exact absurd h1 h2
        · exact List.mem_append_right _ h1
    exact ⟨R, List.perm_middle.trans (hR.cons x)⟩
theorem St.thaw (S : St M H G (F :: L)) (hT : PT F p c T) : St M H G (oseg p (tcells T) :: tseg T :: L) := by
  obtain ⟨R, hR⟩ := perm_pin _ _ hT.nd (hT.hd.app hT.rs.inn)
  have S1 : St M H G ([oseg p (tcells T) ++ tseg T, R] ++ L) := S.perm (by simpa using List.Perm.append_right _ hR)
  refine S1.forget (fun _ h => h) ?_
  simp only [List.cons_append, List.nil_append, List.flatten_cons, List.append_assoc]
  exact List.Sublist.append_left (List.Sublist.append_left (List.sublist_append_right _ _) _) _
theorem sb_tlen {R : List (List Int)} (hT : trows T = R) (h : Sb p T.length c 1) : Sb p R.length c 1 := tlen hT ▸ h
theorem PT.isNone {R : List (List Int)} (h : PT F p c T) (hT : trows T = R) (nl : R = [] → p = none) : p.isNone = decide (R = []) := by
  by_cases e : R = []
  · rw [nl e, decide_eq_true e]; rfl
  · rw [h.hsb.at (by rw [tlen hT]; exact List.length_pos_iff.2 e), decide_eq_false e]; rfl
theorem St.initF {A : List Sg} (hn : (A.flatten.map (·.1)).Nodup) (ho : ∀ x ∈ A.flatten, x.1 < H.length ∧ hget H x.1 = x.2) : St (A.flatten.map (·.1)) H H A :=
  ⟨Nat.le_refl _, fun _ _ _ => rfl, hn, fun x hx => ⟨.inl (List.mem_map.2 ⟨x, hx, rfl⟩), ho x hx⟩⟩
theorem St.fnodup {A : List Sg} (S : St M H G (A ++ L)) : (A.flatten.map (·.1)).Nodup := by
  have n := S.nodup
  rw [List.flatten_append, List.map_append] at n
  exact (List.nodup_append.1 n).1
theorem St.fmem {A : List Sg} (S : St M H G (A ++ L)) : ∀ x ∈ A.flatten, x.1 < G.length ∧ hget G x.1 = x.2 := fun x hx => (S.own x (by rw [List.flatten_append]; exact List.mem_append_left _ hx)).2
end pool
theorem nil_pos2 {α : Type} {x : List α} {β : Prop} (h : 0 < x.length) (e : x = []) : β := by subst e; exact absurd h (by simp)
theorem bel_fn {n : Nat} {f : Fn} {cs : List Value} (h : ∀ v ∈ cs, Bel n v) : Bel n (.func f #[] cs.toArray) :=
  .func f _ _ (fun i v e => by simp at e) (fun i v e => h v (by simpa using Array.mem_of_getElem? e))
theorem tcells3_one {T : Tb3} : ∀ v ∈ tcells3 T, oneCell v = true := by
  intro v h
  obtain ⟨x, _, rfl⟩ := List.mem_map.1 h
  rfl
theorem tcells3_app (S T : Tb3) : tcells3 (S ++ T) = tcells3 S ++ tcells3 T := List.map_append
theorem trows3_apps {S T : Tb3} {R Q : List (List (List Int))} (h : trows3 S = R) (k : trows3 T = Q) : trows3 (S ++ T) = R ++ Q := by subst h k; exact List.map_append
section t3
variable {M : List Nat} {H G : AHeap} {L : List Sg} {T T' : Tb3} {k : Nat}
end t3
end Go.Proofs.YtdafmafigcljkaaGreat.Am
namespace Go.Proofs.YtdafmafigcljkaaGreat.Am
open Go Go.RowKit
set_option linter.unusedVariables false
set_option linter.unusedSimpArgs false
structure PI (F : Sg) (p : Option Addr) (c : Nat) (xs : List Int) : Prop where
  inn : Pin F (oseg p (ints xs))
  sb : Sb p xs.length c 1
structure PRw (F : Sg) (T : Tb) : Prop where
  inn : Pin F (tseg T)
  sb : TSb T
structure PTw (F : Sg) (p : Option Addr) (c : Nat) (T : Tb) : Prop where
  hd : Pin F (oseg p (tcells T))
  rs : PRw F T
  hsb : Sb p T.length c 1
theorem PRw.mono {F' F : Sg} {T : Tb} (hF : Pin F' F) (h : PRw F T) : PRw F' T := ⟨hF.trans h.inn, h.sb⟩
theorem PRw.nil {F : Sg} : PRw F [] := ⟨.nil, .nil⟩
theorem PRw.right {F : Sg} {S T : Tb} (h : PRw F (S ++ T)) : PRw F T := ⟨by have := h.inn; rw [tseg_app] at this; exact this.right, fun x hx => h.sb x (List.mem_append_right _ hx)⟩
theorem PRw.at {F : Sg} {T : Tb} {j : Nat} {p : Option Addr} {c : Nat} {xs : List Int} (h : PRw F T) (e : T[j]? = some (p, c, xs)) : PI F p c xs :=
  ⟨h.inn.trans (tseg_mem (List.mem_of_getElem? e)), h.sb.at e⟩
theorem PRw.set {F : Sg} {T : Tb} {j : Nat} {p : Option Addr} {c : Nat} {xs : List Int} (h : PRw F T) (k : PI F p c xs) : PRw F (T.set j (p, c, xs)) := by
  refine ⟨fun y hy => ?_, TSb.put h.sb k.sb⟩
  obtain ⟨x, hx, hy'⟩ := List.mem_flatMap.1 hy
  rcases List.mem_or_eq_of_mem_set hx with hx | rfl
  · exact h.inn y (tseg_mem hx y hy')
  · exact k.inn y hy'
section pool
variable {M : List Nat} {H G : AHeap} {L : List Sg} {F : Sg} {k n c : Nat} {p : Option Addr} {T X : Tb}
theorem St.poolRowsW (S : St M H G (tseg X :: F :: L)) (hT : PRw F T) (hX : TSb X) : ∃ F', Pin F' F ∧ PRw F' (T ++ X) ∧ St M H G (F' :: L) := by
  obtain ⟨F', h1, h2, S'⟩ := S.poolSeg
  exact ⟨F', h1, ⟨by rw [tseg_app]; exact (h1.trans hT.inn).app h2, hT.sb.app hX⟩, S'⟩
theorem St.poolHdrW (S : St M H G (oseg p (tcells T) :: F :: L)) (hT : PRw F T) (hb : Sb p n c 1) (hl : T.length = n) : ∃ F', Pin F' F ∧ PTw F' p c T ∧ St M H G (F' :: L) := by
  obtain ⟨F', h1, h2, S'⟩ := S.poolSeg
  exact ⟨F', h1, ⟨h2, hT.mono h1, hl ▸ hb⟩, S'⟩
theorem St.piview {xs : List Int} (S : St M H G L) (h : L[k]? = some F) (hp : PI F p c xs) : Vw G p xs.length c (ints xs) := S.pview h hp.inn hp.sb (by rw [ints_length, Nat.mul_one])
theorem St.prwview (S : St M H G L) (h : L[k]? = some F) (hT : PRw F T) : TVw G T := fun x hx => S.pview h (hT.inn.trans (tseg_mem hx)) (hT.sb x hx) (by rw [ints_length, Nat.mul_one])
theorem St.ptwview (S : St M H G L) (h : L[k]? = some F) (hT : PTw F p c T) (hl : T.length = n) : Vw G p n c (tcells T) := S.pview h hT.hd (hl ▸ hT.hsb) (by rw [tcells_len, Nat.mul_one, hl])
theorem swap_perm {α : Type} {l : List α} {i j : Nat} {a b : α} (hi : l[i]? = some a) (hj : l[j]? = some b) : ((l.set i b).set j a).Perm l := by
  obtain ⟨h1, rfl⟩ := List.getElem?_eq_some_iff.1 hi
  obtain ⟨h2, rfl⟩ := List.getElem?_eq_some_iff.1 hj
  exact List.set_set_perm h1 h2
theorem St.tswap {i j : Nat} {a b : Option Addr × Nat × List Int} (S : St M H G (tseg T :: L)) (hi : T[i]? = some a) (hj : T[j]? = some b) : St M H G (tseg ((T.set i b).set j a) :: L) := by
  refine S.perm ?_
  rw [List.flatten_cons, List.flatten_cons]
  exact List.Perm.append_right _ ((swap_perm hi hj).flatMap_right _).symm
theorem TSb.swap {i j : Nat} {a b : Option Addr × Nat × List Int} (h : TSb T) (hi : T[i]? = some a) (hj : T[j]? = some b) : TSb ((T.set i b).set j a) := fun x hx => h x ((swap_perm hi hj).mem_iff.1 hx)
end pool
end Go.Proofs.YtdafmafigcljkaaGreat.Am
namespace Go.Proofs.YtdafmafigcljkaaGreat.Am
open Go Go.RowKit
set_option linter.unusedVariables false
set_option linter.unusedSimpArgs false
section pure
variable {P : Program} {N : Nat} {t : Env} {d : Option Tmp} {ty : TypeId} {pos : String} {af : Array Edge} {g : Option (Nat × Bool)}
def sby (s : ByteArray) (k : Nat) : Int := ((s.data.toList.getD k 0).toNat : Int)
theorem get_sby {s : ByteArray} {k : Nat} (h : k < s.size) : ∃ b, s[k]? = some b ∧ ((b.toNat : Nat) : Int) = sby s k := by
  refine ⟨s[k], by simp [h], ?_⟩
  unfold sby
  have h2 : k < s.data.toList.length := by simpa using h
  rw [List.getD_eq_getElem?_getD, List.getElem?_eq_getElem h2]
  rfl
theorem p_indexS {T : TypeId} {x y : Operand} {s : ByteArray} {k : IntKind} {n : Int} (hT : P.underlying T = some .string) (hx : aEv t x = some (.string s)) (hy : aEv t y = some (.int k n)) (hn : inR n s.size) :
    PureOk P N ⟨d, .index T x y, ty, pos, af, g⟩ t (.int .u8 (sby s n.toNat)) := by
  intro φ w a he
  have h0 : 0 ≤ n := hn.1
  have h1 : n.toNat < s.size := by have : n < (s.size : Int) := hn.2; omega
  obtain ⟨b, hb, e⟩ := get_sby h1
  refine ⟨.int .u8 (sby s n.toNat), ?_, .int _ _⟩
  simp only [execOp, ev_string he hx, ev_int he hy]
  simp [Instr.index, asIntOf, run_underlying hT, h0, hb, e]
theorem p_convI {src dst : TypeId} {dS : TypeDesc} {x : Operand} {j : IntKind} {a : Int} (hS : P.underlying src = some dS) (hD : P.underlying dst = some (.int .i64)) (hx : aEv t x = some (.int j a)) (h : in64 a) : PureOk P N ⟨d, .convert src dst x, ty, pos, af, g⟩ t (.int .i64 a) := p_conv hS hD hx (in64_wr h)
variable {H : AHeap}
end pure
end Go.Proofs.YtdafmafigcljkaaGreat.Am
namespace Go.Proofs.YtdafmafigcljkaaGreat.Am
open Go Go.RowKit
set_option linter.unusedVariables false
set_option linter.unusedSimpArgs false
def ishr (k : IntKind) (a b : Int) : Int := a.fdiv (2 ^ (min b.toNat k.bits))
def iand (k : IntKind) (a b : Int) : Int := k.wrap ((BitVec.ofInt k.bits a &&& BitVec.ofInt k.bits b).toNat : Int)
section
variable {P : Program} {N : Nat} {t : Env} {d : Option Tmp} {ty : TypeId} {pos : String} {af : Array Edge} {g : Option (Nat × Bool)} {xT yT : TypeId} {x y : Operand} {k j : IntKind} {a b : Int}
theorem p_shrE (hx : aEv t x = some (.int k a)) (hy : aEv t y = some (.int j b)) (hb : 0 ≤ b) : PureOk P N ⟨d, .binOp .shr xT x y yT, ty, pos, af, g⟩ t (.int k (ishr k a b)) := p_shr hx hy hb rfl
theorem p_andE (hx : aEv t x = some (.int k a)) (hy : aEv t y = some (.int k b)) : PureOk P N ⟨d, .binOp .and xT x y yT, ty, pos, af, g⟩ t (.int k (iand k a b)) :=
  p_bits hx hy rfl (fun w => by unfold Op.intBits; simp only [Sem.run_pure]; rfl) (.inl rfl)
end
end Go.Proofs.YtdafmafigcljkaaGreat.Am
namespace Go.Proofs.YtdafmafigcljkaaGreat.Am
open Go Go.RowKit
set_option linter.unusedVariables false
set_option linter.unusedSimpArgs false
section
variable {P : Program} {N : Nat} {t : Env} {d : Option Tmp} {ty : TypeId} {pos : String} {af : Array Edge} {g : Option (Nat × Bool)}
theorem p_build3 {T : TypeId} {fs : Array Field} {f0 f1 f2 : Field} {z0 z1 z2 : Value} {ps : List (Nat × Operand)} {vs : List (Nat × Value)} {cs : List Value} (hT : P.underlying T = some (.struct fs)) (hfs : fs = #[f0, f1, f2]) (ho0 : f0.offset = 0) (ho1 : f1.offset = 1) (ho2 : f2.offset = 2)
    (hm0 : ∀ w, (sizeOf f0.type).run P w = .ok 1 w) (hm1 : ∀ w, (sizeOf f1.type).run P w = .ok 1 w) (hm2 : ∀ w, (sizeOf f2.type).run P w = .ok 1 w) (hz : ∀ w, (zeroValue T).run P w = .ok (.agg #[z0, z1, z2]) w) (hf0 : flat0 z0 = true) (hf1 : flat0 z1 = true) (hf2 : flat0 z2 = true)
    (hp : ps.map (fun p => (p.1, aEv t p.2)) = vs.map (fun p => (p.1, some p.2))) (hlt : (vs.all fun p => Nat.blt p.1 3) = true) (hcs : partsOf 1 vs [z0, z1, z2] = some cs) : PureOk P N ⟨d, .build T ps.toArray, ty, pos, af, g⟩ t (.agg cs.toArray) := by
  intro φ w a he
  obtain ⟨q1, q2⟩ := parts_rel hp he
  obtain ⟨cs', k1, k2, k3⟩ := fill_ok (φ := φ) (m := 1) vs (ps.map fun p => (p.1, a.eval p.2)) [z0, z1, z2] [z0, z1, z2] cs q1 q2 rfl (flat_self (by intro c hc; simp at hc; rcases hc with rfl | rfl | rfl <;> assumption)) hcs
  have hpl : ((fs.mapM fun f => (do pure (f.offset, ← sizeOf f.type) : Sem (Nat × Nat))).run P w) = .ok #[(0, 1), (1, 1), (2, 1)] w := by
    subst hfs; simp [hm0, hm1, hm2, ho0, ho1, ho2]
  have hall : ∀ p ∈ (ps.map fun p => (p.1, a.eval p.2)), ((#[(0, 1), (1, 1), (2, 1)] : Array (Nat × Nat))[p.1]?) = some (p.1 * 1, 1) := by
    intro p hp'
    obtain ⟨i, hi, e⟩ := List.getElem_of_mem hp'
    have hi2 : i < vs.length := by rw [q1]; exact hi
    have h1 := q2 i vs[i] _ (List.getElem?_eq_getElem hi2) (List.getElem?_eq_getElem hi)
    rw [List.all_eq_true] at hlt
    have h2 := hlt _ (List.getElem_mem hi2)
    rw [Nat.blt_eq] at h2
    rw [e] at h1
    rw [← h1.1]
    generalize vs[i].1 = n at h2
    match n, h2 with
    | 0, _ => rfl
    | 1, _ => rfl
    | 2, _ => rfl
  refine ⟨.agg cs'.toArray, ?_, .agg _ _ (by simpa using k2) fun j c c' e e' => k3 j c c' (by simpa using e) (by simpa using e')⟩
  have e1 := (fill_congr (f := fun i => (#[(0, 1), (1, 1), (2, 1)] : Array (Nat × Nat))[i]?) (g := fun i => some (i * 1, 1)) _ ([z0, z1, z2] : List Value).toArray hall).trans k1
  have step : (Instr.build T ((ps.map (fun p => (p.1, a.eval p.2))).toArray)).run P w = .ok (.agg cs'.toArray) w := by
    unfold Instr.build
    simp only [Sem.run_bind, hz, Result.andThen_ok, run_underlying hT, hpl]
    have : (Value.agg #[z0, z1, z2]).cells = ([z0, z1, z2] : List Value).toArray := rfl
    rw [this]
    simp only [e1]
    rfl
  simp only [execOp, Sem.run_bind]
  rw [show (Array.map (fun (x : Nat × Operand) => match x with | (i, x) => (i, a.eval x)) ps.toArray) = (ps.map (fun p => (p.1, a.eval p.2))).toArray from by simp, step]
  rfl
end
end Go.Proofs.YtdafmafigcljkaaGreat.Am
namespace Go.Proofs.YtdafmafigcljkaaGreat.Am
open Go Go.RowKit
set_option linter.unusedVariables false
set_option linter.unusedSimpArgs false
def bys (l : List Int) : List Value := l.map (.int .u8)
theorem bys_length (l : List Int) : (bys l).length = l.length := by simp [bys]
theorem bys_get {l : List Int} {k : Nat} (h : k < l.length) : (bys l)[k]? = some (.int .u8 (rd l k)) := by
  simp [bys, rd, List.getD, List.getElem?_eq_getElem h]
def PV (F : Sg) (p : Option Addr) (c : Nat) (xs : List Int) : Prop := ∀ G : AHeap, (∀ x ∈ F, x.1 < G.length ∧ hget G x.1 = x.2) → Vw G p xs.length c (bys xs)
theorem PV.mono {F' F : Sg} {p : Option Addr} {c : Nat} {xs : List Int} (hF : Pin F' F) (h : PV F p c xs) : PV F' p c xs := fun G hG => h G fun x hx => hG x (hF x hx)
theorem St.pvview {M : List Nat} {H G : AHeap} {L : List Sg} {F : Sg} {k c : Nat} {p : Option Addr} {xs : List Int} (S : St M H G L) (h : L[k]? = some F) (hp : PV F p c xs) : Vw G p xs.length c (bys xs) := hp G fun x hx => (S.own _ (S.mem h hx)).2
theorem pv_of {H : AHeap} {p : Option Addr} {c : Nat} {xs : List Int} (h : Vw H p xs.length c (bys xs)) : ∃ F : Sg, ((([F] : List Sg)).flatten.map (·.1)).Nodup ∧ (∀ x ∈ ([F] : List Sg).flatten, x.1 < H.length ∧ hget H x.1 = x.2) ∧ PV F p c xs := by
  rcases h.inn with ⟨h1, h2, h3⟩ | ⟨i, o, rfl, hi⟩
  · refine ⟨[], by simp, fun x hx => absurd hx (by simp), fun G _ => ⟨.inl ⟨h1, h2, h3⟩, fun hne => ?_, fun j v e => ?_⟩⟩
    · exact absurd (List.eq_nil_of_length_eq_zero (by rw [bys_length]; exact h2)) hne
    · have := (List.getElem?_eq_some_iff.1 e).1
      rw [bys_length, h2] at this; exact absurd this (Nat.not_lt_zero _)
  · refine ⟨[(i, hget H i)], by simp, fun x hx => ?_, fun G hG => ?_⟩
    · simp at hx; subst hx; exact ⟨hi, rfl⟩
    · have hg := hG (i, hget H i) (List.mem_singleton.2 rfl)
      exact ⟨.inr ⟨i, o, rfl, hg.1⟩, h.at_, fun j v e => (hcell_same hg.2).trans (h.get j v e)⟩
section
variable {P : Program} {N : Nat} {t : Env} {d : Option Tmp} {ty : TypeId} {pos : String} {af : Array Edge} {g : Option (Nat × Bool)}
theorem p_subT {T : TypeId} {x y : Operand} {E : TypeId} {m n c : Nat} {kl : IntKind} {z : Int} {p : Option Addr} (hT : P.underlying T = some (.slice E)) (hm : ∀ w, (sizeOf E).run P w = .ok m w) (hmU : Nat.blt m 1000000 = true) (hx : aEv t x = some (.slice p n c)) (hs : Sb p n c m) (hy : aEv t y = some (.int kl z))
    (hz : 0 ≤ z ∧ z ≤ ((n : Nat) : Int)) : PureOk P N ⟨d, .slice T x none (some y) none, ty, pos, af, g⟩ t (.slice p z.toNat c) := by
  obtain ⟨h0, h1⟩ := hz
  generalize hl : z.toNat = l
  have hzl : z = (l : Int) := by omega
  subst hzl
  have hln : l ≤ n := by omega
  by_cases hn : 0 < n
  · have hp := hs.at hn
    rw [hp] at hx ⊢
    have := p_slice (P := P) (N := N) (d := d) (ty := ty) (pos := pos) (af := af) (g := g) (kl := .i64) (l := 0) hx (.inl ⟨rfl, rfl⟩) (.inr ⟨y, rfl, hy⟩) hT hm (Nat.zero_le _) hln hn hs.cu
    simpa using this
  · obtain rfl : n = 0 := by omega
    obtain rfl : l = 0 := by omega
    rcases hs with ⟨rfl, _, rfl⟩ | ⟨i, rfl, hc⟩
    · intro φ w a he
      obtain ⟨_, _, e⟩ := (ev_ok he hx).inv_nilSlice
      refine ⟨.slice none 0 0, ?_, .nilSlice⟩
      simp [execOp, e, Instr.sliceAt, Instr.slice, run_underlying hT, Instr.sliceBounds, Instr.sliceBound, asIntOf, ev_int he hy, hm]
    · intro φ w a he
      have hne : c ≠ capE := by
        rw [Nat.blt_eq] at hmU
        rcases hc with hc | ⟨hc, _⟩ <;> unfold capE <;> unfold capU at * <;> omega
      obtain ⟨L, c', hL, e, hc1, hu, hn1⟩ := (ev_ok he hx).inv_slice (.inr hne)
      refine ⟨.slice (some ⟨L.block, L.off + 0, none⟩) 0 c', ?_, .slice i 0 0 c L c' hL hc1 hu hn1⟩
      simp [execOp, e, Instr.sliceAt, Instr.slice, run_underlying hT, Instr.sliceBounds, Instr.sliceBound, asIntOf, ev_int he hy, hm, add_none]
end
theorem len_takeI {l n : Nat} {xs : List Int} (hl : xs.length = n) (hn : l ≤ n) : (xs.take l).length = l := by rw [List.length_take]; omega
def cutc (n c m : Nat) : Nat := if 0 < n then capU + m else c
def cutH (p : Option Addr) (us : List Value) (G : AHeap) : AHeap := match p with | none => G | some a => G.set a.block (.row false us)
theorem flat_take {m : Nat} : ∀ {rs : List (List Int)} (hA : All m rs) (z : Nat), (rs.take z).flatten.length ≤ rs.flatten.length ∧ ∀ (j : Nat) v, (ints (rs.take z).flatten)[j]? = some v → (ints rs.flatten)[j]? = some v
  | rs, _, z => by
    have e : rs.flatten = (rs.take z).flatten ++ (rs.drop z).flatten := by rw [← List.flatten_append, List.take_append_drop]
    refine ⟨by rw [e, List.length_append]; omega, fun j v h => ?_⟩
    rw [e]
    unfold ints at h ⊢
    rw [List.map_append, List.getElem?_append_left (List.getElem?_eq_some_iff.1 h).1]; exact h
section
variable {M : List Nat} {H G : AHeap} {L : List Sg} {p : Option Addr} {n c m k z : Nat} {rs : List (List Int)}
theorem Sb.cut (hb : Sb p n c m) (hz : z ≤ n) : Sb p z (cutc n c m) m := by
  unfold cutc
  rcases hb with ⟨h1, rfl, rfl⟩ | ⟨i, rfl, hc⟩
  · exact .inl ⟨h1, by omega, rfl⟩
  · refine .inr ⟨i, rfl, ?_⟩
    by_cases hn : 0 < n
    · rw [if_pos hn]; exact .inl rfl
    · rw [if_neg hn]
      rcases hc with hc | hc
      · exact .inl hc
      · exact .inr ⟨by omega, hc.2⟩
end
section
variable {P : Program} {N : Nat} {t : Env} {d : Option Tmp} {ty : TypeId} {pos : String} {af : Array Edge} {g : Option (Nat × Bool)}
theorem s_cut {H G' : AHeap} {T : TypeId} {x y : Operand} {E : TypeId} {m n c : Nat} {kl : IntKind} {z : Int} {p : Option Addr} {rs : List (List Int)} (hT : P.underlying T = some (.slice E)) (hm : ∀ w, (sizeOf E).run P w = .ok m w) (hmU : Nat.blt m 1000000 = true) (hx : aEv t x = some (.slice p n c)) (hs : Sb p n c m) (hy : aEv t y = some (.int kl z))
    (hz : 0 ≤ z ∧ z ≤ ((n : Nat) : Int)) (hg : ∀ i, p = some ⟨i, 0, none⟩ → hget H i = .row false (ints rs.flatten)) (hl : (ints rs.flatten).length = n * m) (hA : All m rs) (hG : cutH p (ints (rs.take z.toNat).flatten) H = G') :
    OpOk P N ⟨d, .slice T x none (some y) none, ty, pos, af, g⟩ t H (.slice p z.toNat (cutc n c m)) G' := by
  have hp := p_subT (P := P) (N := N) (d := d) (ty := ty) (pos := pos) (af := af) (g := g) hT hm hmU hx hs hy hz
  have hzn : z.toNat ≤ n := by omega
  rcases hs with ⟨rfl, rfl, rfl⟩ | ⟨i, rfl, hc⟩
  · subst hG
    exact hp.op H
  · intro W φ w a hsim he
    obtain ⟨v', h1, h2⟩ := hp φ w a he
    have hne : c ≠ capE := by
      rw [Nat.blt_eq] at hmU
      rcases hc with hc | ⟨hc, hc2⟩ <;> unfold capE <;> unfold capU at * <;> omega
    obtain ⟨L, c', hL, e, hc1, hu, hn1⟩ := V.inv_slice h2 (.inr hne)
    have hgi := hg i rfl
    have hobj := hsim.obj i L hL
    rw [hgi] at hobj
    have hf := hobj.fits
    rw [hl] at hf
    obtain ⟨t1, t2⟩ := flat_take hA z.toNat
    have hfit : (ints (rs.take z.toNat).flatten).length ≤ L.ext := by
      rw [ints_length]; rw [ints_length] at hl; omega
    obtain ⟨g1, g2⟩ := rewrite_ok (w' := w) (lo := L.off) (hi := L.off) (cs2 := ints (rs.take z.toNat).flatten) hsim hL hgi ⟨fun _ _ _ => rfl, fun o h3 h4 => absurd h3 (by omega), fun _ _ => rfl, rfl, fun _ _ _ h => h, fun _ _ _ h => h⟩ (Nat.le_refl _) (by omega) hfit (fun j v h => hobj.reads j v (t2 j v h))
    have hGe : H.set i (.row false (ints (rs.take z.toNat).flatten)) = G' := hG
    rw [hGe] at g1 g2
    refine Does.of_value h1 ⟨φ, g1, ?_, g2⟩
    unfold cutc
    by_cases hn : 0 < n
    · rw [if_pos hn, e]
      refine .slice i 0 _ (capU + m) L c' hL (fun h => by omega) (fun m' h => ?_) hn1
      obtain rfl : m = m' := by omega
      rcases hc with hc | ⟨hc, hc2⟩
      · exact hu m hc
      · rw [hc1 hc2, hc]; omega
    · rw [if_neg hn]; exact h2
end
end Go.Proofs.YtdafmafigcljkaaGreat.Am
namespace Go.Proofs.YtdafmafigcljkaaGreat.Am
open Go Go.RowKit
set_option linter.unusedVariables false
set_option linter.unusedSimpArgs false
theorem sing_flat (xs : List Int) : (xs.map fun x => [x]).flatten = xs := by
  induction xs with
  | nil => rfl
  | cons a xs ih => rw [List.map_cons, List.flatten_cons, ih]; rfl
section
variable {P : Program} {N : Nat} {t : Env} {d : Option Tmp} {ty : TypeId} {pos : String} {af : Array Edge} {g : Option (Nat × Bool)}
theorem s_cutI {H G' : AHeap} {T : TypeId} {x y : Operand} {E : TypeId} {n c : Nat} {kl : IntKind} {z : Int} {p : Option Addr} {xs : List Int} (hT : P.underlying T = some (.slice E)) (hm : ∀ w, (sizeOf E).run P w = .ok 1 w) (hx : aEv t x = some (.slice p n c)) (hs : Sb p n c 1) (hy : aEv t y = some (.int kl z))
    (hz : 0 ≤ z ∧ z ≤ ((n : Nat) : Int)) (hg : ∀ i, p = some ⟨i, 0, none⟩ → hget H i = .row false (ints xs)) (hl : xs.length = n) (hG : cutH p (ints (xs.take z.toNat)) H = G') :
    OpOk P N ⟨d, .slice T x none (some y) none, ty, pos, af, g⟩ t H (.slice p z.toNat (cutc n c 1)) G' := by
  have e1 := sing_flat xs
  have e2 : ((xs.map fun x => [x]).take z.toNat).flatten = xs.take z.toNat := by rw [← List.map_take]; exact sing_flat _
  refine s_cut (m := 1) (rs := xs.map fun x => [x]) hT hm rfl hx hs hy hz ?_ ?_ ?_ ?_
  · rw [e1]; exact hg
  · rw [e1, ints_length, hl, Nat.mul_one]
  · intro r hr; obtain ⟨x, _, rfl⟩ := List.mem_map.1 hr; rfl
  · rw [e2]; exact hG
end
section
variable {M : List Nat} {H G : AHeap} {L : List Sg} {T : Tb} {q : Option Addr} {c k j z : Nat} {xs : List Int}
theorem tseg_cap (h : T[j]? = some (q, c, xs)) (c1 c2 : Nat) (ys : List Int) : tseg (T.set j (q, c1, ys)) = tseg (T.set j (q, c2, ys)) := by
  rw [(tseg_at h).2, (tseg_at h).2]
theorem St.tcut (S : St M H G L) (h : L[k]? = some (tseg T)) (hj : T[j]? = some (q, c, xs)) (hb : Sb q xs.length c 1) (hn : 0 < xs.length) (z : Nat) :
    ∃ G', cutH q (ints (xs.take z)) G = G' ∧ St M H G' (L.set k (tseg (T.set j (q, cutc xs.length c 1, xs.take z)))) := by
  have hq := hb.at hn
  obtain ⟨G', h1, h2⟩ := S.tset h hj hq (xs.take z)
  refine ⟨G', ?_, ?_⟩
  · rw [hq]; exact h1
  · rw [tseg_cap hj _ c]; exact h2
theorem St.tcutg (S : St M H G L) (h : L[k]? = some (tseg T)) (hj : T[j]? = some (q, c, xs)) : ∀ i, q = some ⟨i, 0, none⟩ → hget G i = .row false (ints xs) := fun i e => by
  subst e; exact S.tat h hj rfl
theorem TSb.cutr (h : TSb T) (e : T[j]? = some (q, c, xs)) (hz : z ≤ xs.length) : TSb (T.set j (q, cutc xs.length c 1, xs.take z)) :=
  TSb.put h (((h.at e).cut hz).len (by rw [List.length_take]; omega))
theorem tcells_putn {n : Nat} (hn : xs.length = n) : (tcells T).set j (.slice q n c) = tcells (T.set j (q, c, xs)) := by subst hn; exact tcells_put _ _ _ _ _
theorem St.pat {F : Sg} {p : Option Addr} {us : List Value} (S : St M H G L) (h : L[k]? = some F) (hp : Pin F (oseg p us)) (hq : p = some ⟨blk p, 0, none⟩) : hget G (blk p) = .row false us := by
  have h1 : (blk p, AObj.row false us) ∈ oseg p us := by rw [hq]; exact List.mem_singleton.2 rfl
  exact (S.own _ (S.mem h (hp _ h1))).2.2
end
end Go.Proofs.YtdafmafigcljkaaGreat.Am
