/-
  What parsing a square computes: by the reference, by the program, the same. Plain Lean, no program, no condition.
-/
import Derived.Test.YtfiilgnebmidbaaDoorPuNu
import Derived.Test.YtfiilgnebmidbaaDoorPuTq
namespace Go.Proofs.YtfiilgnebmidbaaDoor
open Go Am
set_option linter.unusedVariables false
set_option linter.unusedSimpArgs false

/-- all answers, or none -/
def mpO {α β : Type} (f : α → Option β) : List α → Option (List β)
  | [] => some []
  | x :: r => match f x with
    | none => none
    | some y => match mpO f r with
      | none => none
      | some ys => some (y :: ys)
theorem mpO_len {α β : Type} {f : α → Option β} : ∀ {l : List α} {m : List β}, mpO f l = some m → m.length = l.length
  | [], m, h => by cases h; rfl
  | x :: r, m, h => by
    unfold mpO at h
    cases hx : f x with
    | none => rw [hx] at h; cases h
    | some y =>
      rw [hx] at h
      cases hr : mpO f r with
      | none => rw [hr] at h; cases h
      | some ys => rw [hr] at h; cases h; simp [mpO_len hr]
theorem mpO_mem {α β : Type} {f : α → Option β} : ∀ {l : List α} {m : List β}, mpO f l = some m → ∀ y ∈ m, ∃ x ∈ l, f x = some y
  | [], m, h => by cases h; intro y hy; cases hy
  | x :: r, m, h => by
    unfold mpO at h
    cases hx : f x with
    | none => rw [hx] at h; cases h
    | some y =>
      rw [hx] at h
      cases hr : mpO f r with
      | none => rw [hr] at h; cases h
      | some ys =>
        rw [hr] at h; cases h
        intro z hz
        rcases List.mem_cons.1 hz with rfl | hz
        · exact ⟨x, by simp, hx⟩
        · obtain ⟨w, hw, e⟩ := mpO_mem hr z hz
          exact ⟨w, by simp [hw], e⟩
theorem mpO_back {α β : Type} {f : α → Option β} {g : β → α} (hg : ∀ x y, f x = some y → x = g y) : ∀ {l : List α} {m : List β}, mpO f l = some m → l = m.map g
  | [], m, h => by cases h; rfl
  | x :: r, m, h => by
    unfold mpO at h
    cases hx : f x with
    | none => rw [hx] at h; cases h
    | some y =>
      rw [hx] at h
      cases hr : mpO f r with
      | none => rw [hr] at h; cases h
      | some ys => rw [hr] at h; cases h; rw [List.map_cons, ← hg x y hx, ← mpO_back hg hr]
theorem mpO_map {α β : Type} {f : α → Option β} {g : β → α} : ∀ {m : List β}, (∀ y ∈ m, f (g y) = some y) → mpO f (m.map g) = some m
  | [], _ => rfl
  | y :: r, h => by
    rw [List.map_cons]; unfold mpO
    rw [h y (by simp), mpO_map (fun z hz => h z (by simp [hz]))]
def sumO {α E : Type} (e : E) : Option α → α ⊕ E
  | some m => .inl m
  | none => .inr e
/-- a loop that gathers answers until one is missing -/
theorem loop_mpO {α γ E : Type} {step : (List γ × Int) → Option (Lo (List γ × Int) (List γ ⊕ E))} {fu : Nat} {f : α → Option γ} {l : List α} {e : E} (hfu : l.length < fu)
    (hgo : ∀ (k : Nat) (acc : List γ) (x : α), acc.length = k → l[k]? = some x → step (acc, (k : Int)) = some (match f x with | some y => .go (acc ++ [y], ((k + 1 : Nat) : Int)) | none => .out (.inr e)))
    (hout : ∀ acc : List γ, step (acc, (l.length : Int)) = some (.out (.inl acc))) : loopF step fu ([], 0) = some (sumO e (mpO f l)) := by
  have key : ∀ (m k : Nat) (acc : List γ) (g : Nat), k + m = l.length → m < g → acc.length = k → loopF step g (acc, (k : Int)) = some (match mpO f (l.drop k) with | some m => .inl (acc ++ m) | none => .inr e) := by
    intro m
    induction m with
    | zero =>
      intro k acc g hk hg ha
      obtain ⟨g, rfl⟩ : ∃ j, g = j + 1 := ⟨g - 1, by omega⟩
      rw [List.drop_of_length_le (by omega)]
      have hkl : k = l.length := by omega
      subst hkl
      rw [loop_out (hout acc)]
      simp [mpO]
    | succ m ih =>
      intro k acc g hk hg ha
      obtain ⟨g, rfl⟩ : ∃ j, g = j + 1 := ⟨g - 1, by omega⟩
      have hkl : k < l.length := by omega
      have hx : l[k]? = some l[k] := List.getElem?_eq_getElem hkl
      rw [List.drop_eq_getElem_cons hkl]
      unfold mpO
      have hs := hgo k acc l[k] ha hx
      cases hf : f l[k] with
      | none =>
        rw [hf] at hs
        rw [loop_out hs]
      | some y =>
        rw [hf] at hs
        rw [loop_go hs, ih (k + 1) (acc ++ [y]) g (by omega) (by omega) (by simp [ha])]
        cases mpO f (l.drop (k + 1)) with
        | none => rfl
        | some m => simp
  have := key l.length 0 [] fu (by omega) hfu rfl
  rw [List.drop_zero] at this
  refine Eq.trans this ?_
  cases mpO f l <;> rfl
theorem rds_map {l : List (List UInt8)} {k : Nat} {x : List UInt8} (h : l[k]? = some x) : rds (l.map toB) k = toB x := by
  unfold rds
  rw [List.getD_eq_getElem?_getD, List.getElem?_map, h]; rfl
/-! words -/
theorem dec_mem {v : Int} (h : 0 ≤ v ∧ v < 100) : ∀ x ∈ dec v, 48 ≤ x.toNat ∧ x.toNat ≤ 57 := by
  by_cases h1 : v < 10
  · rw [dec_small ⟨h.1, h1⟩]
    intro x hx
    rw [List.mem_singleton.1 hx, dig_nat (by omega)]; omega
  · rw [dec_big ⟨by omega, h.2⟩, dec_small ⟨by omega, by omega⟩]
    intro x hx
    simp only [List.singleton_append, List.mem_cons, List.not_mem_nil, or_false] at hx
    rcases hx with rfl | rfl <;> rw [dig_nat (by omega)] <;> omega
theorem join_mem {s : UInt8} : ∀ {ps : List (List UInt8)} {x : UInt8}, x ∈ Go.Lib.join ps [s] → x = s ∨ ∃ p ∈ ps, x ∈ p
  | [], x, h => by rw [Go.Lib.join_nil] at h; cases h
  | [p], x, h => by rw [Go.Lib.join_one] at h; exact .inr ⟨p, by simp, h⟩
  | p :: q :: ps, x, h => by
    have e : Go.Lib.join (p :: q :: ps) [s] = p ++ s :: Go.Lib.join (q :: ps) [s] := by
      rw [Go.Lib.join_cons, Go.Lib.join_cons]; simp [Go.Lib.joinTail]
    rw [e, List.mem_append, List.mem_cons] at h
    rcases h with h | h | h
    · exact .inr ⟨p, by simp, h⟩
    · exact .inl h
    · rcases join_mem h with h | ⟨w, hw, h⟩
      · exact .inl h
      · exact .inr ⟨w, by simp only [List.mem_cons] at hw ⊢; exact .inr hw, h⟩
theorem not_dec {v : Int} {c : UInt8} (h : 0 ≤ v ∧ v < 100) (hc : c.toNat < 48 ∨ 57 < c.toNat) : c ∉ dec v := fun hm => by
  have := dec_mem h c hm; omega
/-- a pair of numbers, as the reference reads it -/
def prS (l : List UInt8) : Option (Int × Int) := match spl 45 l with
  | [a, b] => some (sNum a, sNum b)
  | _ => none
theorem prS_dec {a b : Int} (ha : 0 ≤ a ∧ a < 100) (hb : 0 ≤ b ∧ b < 100) : prS (dec a ++ [45] ++ dec b) = some (a, b) := by
  unfold prS
  rw [List.append_assoc, List.singleton_append, spl_app (not_dec ha (by decide)), spl_none (not_dec hb (by decide))]
  show some (sNum (dec a), sNum (dec b)) = _
  rw [sNum_dec ha, sNum_dec hb]
theorem dec_prS {l : List UInt8} {a b : Int} (h : prS l = some (a, b)) (ha : 0 ≤ a ∧ a < 100) (hb : 0 ≤ b ∧ b < 100) : l = dec a ++ [45] ++ dec b := by
  unfold prS at h
  have hj := join_spl 45 l
  split at h
  · rename_i x y hxy
    rw [hxy] at hj
    have h1 := Option.some.inj h
    have e1 : sNum x = a := congrArg Prod.fst h1
    have e2 : sNum y = b := congrArg Prod.snd h1
    rw [← hj, dec_sNum ha e1, dec_sNum hb e2]
    rw [Go.Lib.join_cons]; simp [Go.Lib.joinTail]
  · cases h
/-! cells -/
def cellS (l : List UInt8) : Option Int := if l = [46] then some (-1) else match prS l with
  | some (a, b) => if inB a 0 13 && inB b 0 13 then some (14 * a + b) else none
  | none => none
theorem cellS_back (l : List UInt8) (c : Int) (h : cellS l = some c) : l = wd c := by
  unfold cellS at h
  split at h
  · rename_i e; cases h; rw [e]; rfl
  · split at h
    · rename_i a b hp
      split at h
      · rename_i hb
        rw [Bool.and_eq_true] at hb
        have h1 := inB_of hb.1
        have h2 := inB_of hb.2
        obtain rfl := (Option.some.inj h).symm
        rw [wd_pos (by omega), show (14 * a + b) / 14 = a by omega, show (14 * a + b) % 14 = b by omega]
        exact dec_prS hp (by omega) (by omega)
      · cases h
    · cases h
theorem wd_ne46 {c : Int} (h : 0 ≤ c ∧ c ≤ 195) : wd c ≠ [46] := fun e => by
  rw [wd_pos h.1] at e
  have : (45 : UInt8) ∈ [(46 : UInt8)] := by rw [← e]; simp
  simp at this
theorem cellS_wd {c : Int} (h : okC c) : cellS (wd c) = some c := by
  unfold okC at h
  unfold cellS
  by_cases h0 : 0 ≤ c
  · rw [if_neg (wd_ne46 ⟨h0, h.2⟩), wd_pos h0, prS_dec ⟨by omega, by omega⟩ ⟨by omega, by omega⟩]
    dsimp only
    rw [inB_t ⟨by omega, by omega⟩, inB_t ⟨by omega, by omega⟩, Bool.and_self, if_pos rfl]
    congr 1; omega
  · rw [wd_neg (by omega), if_pos rfl]; congr 1; omega
def cellI (l : List UInt8) : Option Int := if (Go.Lib.cut l [45]).2.2 then
    if inB (rdNum (toB (Go.Lib.cut l [45]).1)) 0 13 && inB (rdNum (toB (Go.Lib.cut l [45]).2.1)) 0 13 then some (14 * rdNum (toB (Go.Lib.cut l [45]).1) + rdNum (toB (Go.Lib.cut l [45]).2.1)) else none
  else some (-1)
theorem cellI_ok {l : List UInt8} {c : Int} (h : cellI l = some c) : okC c := by
  unfold cellI at h
  unfold okC
  split at h
  · split at h
    · rename_i hb
      rw [Bool.and_eq_true] at hb
      have h1 := inB_of hb.1
      have h2 := inB_of hb.2
      have := Option.some.inj h
      omega
    · cases h
  · have := Option.some.inj h; omega
theorem cellI_wd {c : Int} (h : okC c) : cellI (wd c) = some c := by
  unfold okC at h
  unfold cellI
  by_cases h0 : 0 ≤ c
  · rw [wd_pos h0, List.append_assoc, List.singleton_append, cut_some (not_dec ⟨by omega, by omega⟩ (by decide))]
    dsimp only
    rw [rdNum_dec ⟨by omega, by omega⟩, rdNum_dec ⟨by omega, by omega⟩, if_pos rfl, inB_t ⟨by omega, by omega⟩, inB_t ⟨by omega, by omega⟩, Bool.and_self, if_pos rfl]
    congr 1; omega
  · rw [wd_neg (by omega), cut_none (by simp)]
    show some (-1) = some c
    congr 1; omega
/-! squares -/
def sqS (l : List UInt8) : Int × List (List Int) × Int := match spl 58 l with
  | [a, b] => match mpO (fun t => mpO cellS (spl 44 t)) (spl 59 b) with
    | some ps => if isSq (sNum a) ps then (sNum a, ps, 0) else (0, [], 6)
    | none => (0, [], 6)
  | _ => (0, [], 6)
def sqI (l : List UInt8) : Int × List (List Int) × Int := match mpO (fun t => mpO cellI (spl 44 t)) (spl 59 (Go.Lib.cut l [58]).2.1) with
    | some ps => if isSq (rdNum (toB (Go.Lib.cut l [58]).1)) ps && decide (sqT (rdNum (toB (Go.Lib.cut l [58]).1)) ps = l) then (rdNum (toB (Go.Lib.cut l [58]).1), ps, 0) else (0, [], 6)
    | none => (0, [], 6)
theorem isSq_ne {n : Int} {ps : List (List Int)} (h : isSq n ps = true) : ps ≠ [] ∧ ∀ r ∈ ps, r ≠ [] := by
  unfold isSq at h
  simp only [Bool.and_eq_true, decide_eq_true_eq, List.all_eq_true] at h
  obtain ⟨⟨⟨h1, _⟩, h2⟩, h3⟩ := h
  have hn := inB_of h1
  refine ⟨fun e => ?_, fun r hr e => ?_⟩
  · rw [e] at h2; simp at h2; omega
  · have := (h3 r hr).1; rw [e] at this; simp at this; omega
theorem wd_mem {c : Int} (h : okC c) {x : UInt8} (hx : x ∈ wd c) : x.toNat = 45 ∨ x.toNat = 46 ∨ (48 ≤ x.toNat ∧ x.toNat ≤ 57) := by
  unfold okC at h
  by_cases h0 : 0 ≤ c
  · rw [wd_pos h0, List.mem_append, List.mem_append] at hx
    rcases hx with (hx | hx) | hx
    · exact .inr (.inr (dec_mem ⟨by omega, by omega⟩ x hx))
    · rw [List.mem_singleton.1 hx]; exact .inl rfl
    · exact .inr (.inr (dec_mem ⟨by omega, by omega⟩ x hx))
  · rw [wd_neg (by omega)] at hx
    rw [List.mem_singleton.1 hx]; exact .inr (.inl rfl)
theorem rowT_mem {r : List Int} (h : ∀ c ∈ r, okC c) {x : UInt8} (hx : x ∈ rowT r) : x.toNat ≠ 58 ∧ x.toNat ≠ 59 := by
  unfold rowT at hx
  rcases join_mem hx with rfl | ⟨p, hp, h1⟩
  · decide
  · obtain ⟨c, hc, rfl⟩ := List.mem_map.1 hp
    have := wd_mem (h c hc) h1
    omega
theorem row_parse {f : List UInt8 → Option Int} (hf : ∀ c, okC c → f (wd c) = some c) {r : List Int} (h : ∀ c ∈ r, okC c) (hne : r ≠ []) : mpO f (spl 44 (rowT r)) = some r := by
  unfold rowT
  rw [spl_join (by simpa using hne)]
  · exact mpO_map (fun c hc => hf c (h c hc))
  · intro p hp hm
    obtain ⟨c, hc, rfl⟩ := List.mem_map.1 hp
    have := wd_mem (h c hc) hm
    simp at this
theorem sq_parse {f : List UInt8 → Option Int} (hf : ∀ c, okC c → f (wd c) = some c) {n : Int} {ps : List (List Int)} (h : isSq n ps = true) : mpO (fun t => mpO f (spl 44 t)) (spl 59 (Go.Lib.join (ps.map rowT) [59])) = some ps := by
  have ho := okSq_of h
  have hn := isSq_ne h
  rw [spl_join (by simpa using hn.1)]
  · exact mpO_map (fun r hr => row_parse hf (ho.row r hr).2 (hn.2 r hr))
  · intro p hp hm
    obtain ⟨r, hr, rfl⟩ := List.mem_map.1 hp
    exact (rowT_mem (ho.row r hr).2 hm).2 rfl
theorem sq_tail {n : Int} {ps : List (List Int)} (h : isSq n ps = true) : (58 : UInt8) ∉ Go.Lib.join (ps.map rowT) [59] := fun hm => by
  have ho := okSq_of h
  rcases join_mem hm with e | ⟨p, hp, h1⟩
  · simp at e
  · obtain ⟨r, hr, rfl⟩ := List.mem_map.1 hp
    exact (rowT_mem (ho.row r hr).2 h1).1 rfl
theorem sqS_text {n : Int} {ps : List (List Int)} (h : isSq n ps = true) : sqS (sqT n ps) = (n, ps, 0) := by
  have hn := (okSq_of h).n
  unfold sqS sqT
  rw [List.append_assoc, List.singleton_append, spl_app (not_dec ⟨by omega, by omega⟩ (by decide)), spl_none (sq_tail h)]
  dsimp only
  rw [sq_parse (fun c => cellS_wd) h, sNum_dec ⟨by omega, by omega⟩]
  dsimp only
  rw [if_pos h]
theorem sqI_text {n : Int} {ps : List (List Int)} (h : isSq n ps = true) : sqI (sqT n ps) = (n, ps, 0) := by
  have hn := (okSq_of h).n
  have e : Go.Lib.cut (sqT n ps) [58] = (dec n, Go.Lib.join (ps.map rowT) [59], true) := by
    unfold sqT
    rw [List.append_assoc, List.singleton_append, cut_some (not_dec ⟨by omega, by omega⟩ (by decide))]
  unfold sqI
  rw [e]
  dsimp only
  rw [sq_parse (fun c => cellI_wd) h, rdNum_dec ⟨by omega, by omega⟩]
  dsimp only
  rw [h, decide_eq_true rfl, Bool.and_self, if_pos rfl]
theorem sqS_back {l : List UInt8} : sqS l = (0, [], 6) ∨ ∃ n ps, isSq n ps = true ∧ l = sqT n ps := by
  have hj := join_spl 58 l
  unfold sqS
  split
  · rename_i a b hab
    rw [hab] at hj
    split
    · rename_i ps hps
      split
      · rename_i hs
        refine .inr ⟨sNum a, ps, hs, ?_⟩
        have hn := (okSq_of hs).n
        have e1 := mpO_back (g := rowT) (fun t r h => by
          have := mpO_back (g := wd) cellS_back h
          unfold rowT; rw [← this, join_spl]) hps
        have e2 := join_spl 59 b
        unfold sqT
        rw [← e1, e2, ← dec_sNum (l := a) ⟨by omega, by omega⟩ rfl, ← hj, Go.Lib.join_cons]; simp [Go.Lib.joinTail]
      · exact .inl rfl
    · exact .inl rfl
  · exact .inl rfl
theorem sqI_back {l : List UInt8} : sqI l = (0, [], 6) ∨ ∃ n ps, isSq n ps = true ∧ l = sqT n ps := by
  unfold sqI
  split
  · rename_i ps hps
    split
    · rename_i hs
      rw [Bool.and_eq_true, decide_eq_true_eq] at hs
      exact .inr ⟨_, ps, hs.1, hs.2.symm⟩
    · exact .inl rfl
  · exact .inl rfl
theorem sq_same (l : List UInt8) : sqI l = sqS l := by
  by_cases h : ∃ n ps, isSq n ps = true ∧ l = sqT n ps
  · obtain ⟨n, ps, h1, rfl⟩ := h
    rw [sqS_text h1, sqI_text h1]
  · rcases sqS_back (l := l) with e | e
    · rcases sqI_back (l := l) with e' | e'
      · rw [e, e']
      · exact absurd e' h
    · exact absurd e h
end Go.Proofs.YtfiilgnebmidbaaDoor

