/-
  Tables whose rows lie in a pool, one row at several places. Rows of one's own that change places. No condition.
-/
import Derived.Test.YtdafmafigcljkaaPl
namespace Go.Proofs.Ytdafmafigcljkaa.Am
open Go Go.RowKit
set_option linter.unusedVariables false
set_option linter.unusedSimpArgs false

structure PI (F : Sg) (p : Option Addr) (c : Nat) (xs : List Int) : Prop where
  inn : Pin F (oseg p (ints xs))
  sb : Sb p xs.length c 1
structure PRw (F : Sg) (T : Tb) : Prop where
  inn : Pin F (tseg T)
  sb : TSb T
structure PTw (F : Sg) (p : Option Addr) (c : Nat) (T : Tb) : Prop where
  hd : Pin F (oseg p (tcells T))
  rs : PRw F T
  hsb : Sb p T.length c 1
theorem PI.mono {F' F : Sg} {p : Option Addr} {c : Nat} {xs : List Int} (hF : Pin F' F) (h : PI F p c xs) : PI F' p c xs := ⟨hF.trans h.inn, h.sb⟩
theorem PRw.mono {F' F : Sg} {T : Tb} (hF : Pin F' F) (h : PRw F T) : PRw F' T := ⟨hF.trans h.inn, h.sb⟩
theorem PTw.mono {F' F : Sg} {p : Option Addr} {c : Nat} {T : Tb} (hF : Pin F' F) (h : PTw F p c T) : PTw F' p c T := ⟨hF.trans h.hd, h.rs.mono hF, h.hsb⟩
theorem PT.weak {F : Sg} {p : Option Addr} {c : Nat} {T : Tb} (h : PT F p c T) : PTw F p c T := ⟨h.hd, ⟨h.rs.inn, h.rs.sb⟩, h.hsb⟩
theorem PRw.nil {F : Sg} : PRw F [] := ⟨.nil, .nil⟩
theorem PTw.nil {F : Sg} : PTw F none 0 [] := ⟨.nil, .nil, .nil⟩
theorem PRw.right {F : Sg} {S T : Tb} (h : PRw F (S ++ T)) : PRw F T := ⟨by have := h.inn; rw [tseg_app] at this; exact this.right, fun x hx => h.sb x (List.mem_append_right _ hx)⟩
theorem PRw.at {F : Sg} {T : Tb} {j : Nat} {p : Option Addr} {c : Nat} {xs : List Int} (h : PRw F T) (e : T[j]? = some (p, c, xs)) : PI F p c xs :=
  ⟨h.inn.trans (tseg_mem (List.mem_of_getElem? e)), h.sb.at e⟩
theorem PRw.set {F : Sg} {T : Tb} {j : Nat} {p : Option Addr} {c : Nat} {xs : List Int} (h : PRw F T) (k : PI F p c xs) : PRw F (T.set j (p, c, xs)) := by
  refine ⟨fun y hy => ?_, TSb.put h.sb k.sb⟩
  obtain ⟨x, hx, hy'⟩ := List.mem_flatMap.1 hy
  rcases List.mem_or_eq_of_mem_set hx with hx | rfl
  · exact h.inn y (tseg_mem hx y hy')
  · exact k.inn y hy'
section pool
variable {M : List Nat} {H G : AHeap} {L : List Sg} {F : Sg} {k n c : Nat} {p : Option Addr} {T X : Tb}
theorem St.poolRowsW (S : St M H G (tseg X :: F :: L)) (hT : PRw F T) (hX : TSb X) : ∃ F', Pin F' F ∧ PRw F' (T ++ X) ∧ St M H G (F' :: L) := by
  obtain ⟨F', h1, h2, S'⟩ := S.poolSeg
  exact ⟨F', h1, ⟨by rw [tseg_app]; exact (h1.trans hT.inn).app h2, hT.sb.app hX⟩, S'⟩
theorem St.poolHdrW (S : St M H G (oseg p (tcells T) :: F :: L)) (hT : PRw F T) (hb : Sb p n c 1) (hl : T.length = n) : ∃ F', Pin F' F ∧ PTw F' p c T ∧ St M H G (F' :: L) := by
  obtain ⟨F', h1, h2, S'⟩ := S.poolSeg
  exact ⟨F', h1, ⟨h2, hT.mono h1, hl ▸ hb⟩, S'⟩
theorem St.piview {xs : List Int} (S : St M H G L) (h : L[k]? = some F) (hp : PI F p c xs) : Vw G p xs.length c (ints xs) := S.pview h hp.inn hp.sb (by rw [ints_length, Nat.mul_one])
theorem St.prwview (S : St M H G L) (h : L[k]? = some F) (hT : PRw F T) : TVw G T := fun x hx => S.pview h (hT.inn.trans (tseg_mem hx)) (hT.sb x hx) (by rw [ints_length, Nat.mul_one])
theorem St.ptwview (S : St M H G L) (h : L[k]? = some F) (hT : PTw F p c T) (hl : T.length = n) : Vw G p n c (tcells T) := S.pview h hT.hd (hl ▸ hT.hsb) (by rw [tcells_len, Nat.mul_one, hl])
/-- two rows change places -/
theorem swap_perm {α : Type} {l : List α} {i j : Nat} {a b : α} (hi : l[i]? = some a) (hj : l[j]? = some b) : ((l.set i b).set j a).Perm l := by
  obtain ⟨h1, rfl⟩ := List.getElem?_eq_some_iff.1 hi
  obtain ⟨h2, rfl⟩ := List.getElem?_eq_some_iff.1 hj
  exact List.set_set_perm h1 h2
theorem St.tswap {i j : Nat} {a b : Option Addr × Nat × List Int} (S : St M H G (tseg T :: L)) (hi : T[i]? = some a) (hj : T[j]? = some b) : St M H G (tseg ((T.set i b).set j a) :: L) := by
  refine S.perm ?_
  rw [List.flatten_cons, List.flatten_cons]
  exact List.Perm.append_right _ ((swap_perm hi hj).flatMap_right _).symm
theorem TSb.swap {i j : Nat} {a b : Option Addr × Nat × List Int} (h : TSb T) (hi : T[i]? = some a) (hj : T[j]? = some b) : TSb ((T.set i b).set j a) := fun x hx => h x ((swap_perm hi hj).mem_iff.1 hx)
end pool
end Go.Proofs.Ytdafmafigcljkaa.Am
