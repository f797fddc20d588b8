/-
  TransposeSquare, RowsOf, ColumnsOf: what program and reference compute, and the laws. Plain Lean, no program, no condition.
-/
import Derived.Test.YtdafmafigcljkaaPuN
namespace Go.Proofs.Ytdafmafigcljkaa
open Go Am
set_option linter.unusedVariables false
set_option linter.unusedSimpArgs false

/-- a state that may be lost on the way -/
def optF {σ : Type} (g : Nat → σ → Option σ) : Nat → Nat → σ → Option σ
  | 0, _, s => some s
  | m + 1, k, s => (g k s).bind (optF g m (k + 1))
theorem optF_succ {σ : Type} (g : Nat → σ → Option σ) (m k : Nat) (s : σ) : optF g (m + 1) k s = (g k s).bind (optF g m (k + 1)) := rfl
theorem loop_optF' {σ R : Type} {step : σ × Int → Option (Lo (σ × Int) R)} (g : Nat → σ → Option σ) (P : Nat → σ → Prop) (n : Nat) (rT : σ → R) (rF : R)
    (hgo : ∀ k s s', k < n → P k s → g k s = some s' → step (s, (k : Int)) = some (.go (s', (k : Int) + 1)) ∧ P (k + 1) s') (hF : ∀ k s, k < n → P k s → g k s = none → step (s, (k : Int)) = some (.out rF)) (hT : ∀ s, P n s → step (s, (n : Int)) = some (.out (rT s))) :
    ∀ (m k fu : Nat) (s : σ), k + m = n → m < fu → P k s → loopF step fu (s, (k : Int)) = some ((optF g m k s).elim rF rT)
  | 0, k, fu + 1, s, h, _, hP => by
    have : k = n := by omega
    subst this; exact loop_out (hT s hP)
  | m + 1, k, fu + 1, s, h, hf, hP => by
    cases hg : g k s with
    | none => rw [loop_out (hF k s (by omega) hP hg), optF_succ, hg]; rfl
    | some s' =>
      obtain ⟨h1, h2⟩ := hgo k s s' (by omega) hP hg
      rw [loop_go h1]
      have := loop_optF' g P n rT rF hgo hF hT m (k + 1) fu s' (by omega) (by omega) h2
      rw [show ((k : Int) + 1) = ((k + 1 : Nat) : Int) by omega, this, optF_succ, hg]; rfl
  | 0, _, 0, _, _, hf, _ => absurd hf (Nat.not_lt_zero _)
  | _ + 1, _, 0, _, _, hf, _ => absurd hf (Nat.not_lt_zero _)
theorem loop_optF {σ R : Type} {step : σ × Int → Option (Lo (σ × Int) R)} {fu : Nat} (g : Nat → σ → Option σ) (P : Nat → σ → Prop) (n : Nat) (rT : σ → R) (rF : R) (hf : n < fu) {s : σ} (hP : P 0 s)
    (hgo : ∀ k s s', k < n → P k s → g k s = some s' → step (s, (k : Int)) = some (.go (s', (k : Int) + 1)) ∧ P (k + 1) s') (hF : ∀ k s, k < n → P k s → g k s = none → step (s, (k : Int)) = some (.out rF)) (hT : ∀ s, P n s → step (s, (n : Int)) = some (.out (rT s))) :
    loopF step fu (s, 0) = some ((optF g n 0 s).elim rF rT) := loop_optF' g P n rT rF hgo hF hT n 0 fu s (by omega) hf hP
theorem optF_drop {σ : Type} (h : σ → Int → Option σ) (l : List Int) : ∀ (m k : Nat) (s : σ), k + m = l.length → optF (fun k s => h s (rd l k)) m k s = (l.drop k).foldlM h s
  | 0, k, s, e => by rw [List.drop_of_length_le (by omega)]; rfl
  | m + 1, k, s, e => by
    have hk : k < l.length := by omega
    have : l.drop k = rd l k :: l.drop (k + 1) := by
      rw [List.drop_eq_getElem_cons hk]; simp [rd, List.getD_eq_getElem?_getD, List.getElem?_eq_getElem hk]
    rw [this, List.foldlM_cons]
    rw [optF_succ]
    show Option.bind _ _ = Option.bind _ _
    congr 1; funext s'; exact optF_drop h l m (k + 1) s' (by omega)
theorem optF_list {σ : Type} (h : σ → Int → Option σ) (l : List Int) (s : σ) : optF (fun k s => h s (rd l k)) l.length 0 s = l.foldlM h s := optF_drop h l _ 0 s (by omega)
theorem optF_dropR {σ : Type} (h : σ → List Int → Option σ) (l : List (List Int)) : ∀ (m k : Nat) (s : σ), k + m = l.length → optF (fun k s => h s (rw_ l k)) m k s = (l.drop k).foldlM h s
  | 0, k, s, e => by rw [List.drop_of_length_le (by omega)]; rfl
  | m + 1, k, s, e => by
    rw [drop_rw (by omega : k < l.length), List.foldlM_cons]
    rw [optF_succ]
    show Option.bind _ _ = Option.bind _ _
    congr 1; funext s'; exact optF_dropR h l m (k + 1) s' (by omega)
theorem optF_listR {σ : Type} (h : σ → List Int → Option σ) (l : List (List Int)) (s : σ) : optF (fun k s => h s (rw_ l k)) l.length 0 s = l.foldlM h s := optF_dropR h l _ 0 s (by omega)

/-! the square turned -/
def trw (n : Nat) (ps : List (List Int)) (i : Nat) : List Int := (List.range n).map fun j => rd (rw_ ps j) i
def tr (n : Nat) (ps : List (List Int)) : List (List Int) := (List.range n).map (trw n ps)
theorem tr_len (n : Nat) (ps : List (List Int)) : (tr n ps).length = n := by simp [tr]
theorem trw_len (n : Nat) (ps : List (List Int)) (i : Nat) : (trw n ps i).length = n := by simp [trw]
theorem rw_map {f : Nat → List Int} {n k : Nat} (h : k < n) : rw_ ((List.range n).map f) k = f k := by simp [rw_, List.getD_eq_getElem?_getD, h]
theorem rd_map {f : Nat → Int} {n k : Nat} (h : k < n) : rd ((List.range n).map f) k = f k := by simp [rd, List.getD_eq_getElem?_getD, h]
theorem range_app {α : Type} (f : Nat → α) (k : Nat) : (List.range k).map f ++ [f k] = (List.range (k + 1)).map f := by rw [List.range_succ, List.map_append]; rfl
/-- what stands when rows 0 .. i-1 and places 0 .. j-1 of row i are written -/
def trp (n : Nat) (ps : List (List Int)) (i j : Nat) : List (List Int) := (List.range n).map fun a => (List.range n).map fun b => if b < i ∨ (b = i ∧ a < j) then rd (rw_ ps b) a else 0
theorem trp_len (n : Nat) (ps : List (List Int)) (i j : Nat) : (trp n ps i j).length = n := by simp [trp]
theorem trp_rw {n : Nat} (ps : List (List Int)) (i j : Nat) {a : Nat} (h : a < n) : rw_ (trp n ps i j) a = (List.range n).map fun b => if b < i ∨ (b = i ∧ a < j) then rd (rw_ ps b) a else 0 := rw_map h
theorem trp_next (n : Nat) (ps : List (List Int)) (i : Nat) : trp n ps i n = trp n ps (i + 1) 0 := by
  unfold trp
  apply List.map_congr_left
  intro a ha
  apply List.map_congr_left
  intro b hb
  have ha' := List.mem_range.1 ha
  have : (b < i ∨ (b = i ∧ a < n)) = (b < i + 1 ∨ (b = i + 1 ∧ a < 0)) := propext (by omega)
  simp only [this]
theorem trp_set {n : Nat} {ps : List (List Int)} {i j : Nat} (hi : i < n) (hj : j < n) : (trp n ps i j).set j ((rw_ (trp n ps i j) j).set i (rd (rw_ ps i) j)) = trp n ps i (j + 1) := by
  apply rows_ext
  · rw [List.length_set, trp_len, trp_len]
  · intro a ha
    rw [List.length_set, trp_len] at ha
    rw [rw_set' (by rw [trp_len]; exact hj), trp_rw _ _ _ ha]
    by_cases e : j = a
    · subst e
      rw [if_pos rfl, trp_rw _ _ _ hj, trp_rw _ _ _ hj]
      apply ints_ext
      · simp
      · intro b hb
        simp only [List.length_set, List.length_map, List.length_range] at hb
        rw [rd_set (by simpa using hi), rd_map hb, rd_map hb]
        by_cases eb : i = b
        · subst eb; rw [if_pos rfl, if_pos (by omega)]
        · rw [if_neg eb]
          have : (b < i ∨ b = i ∧ j < j) = (b < i ∨ b = i ∧ j < j + 1) := propext (by omega)
          simp only [this]
    · rw [if_neg e, trp_rw _ _ _ ha]
      apply List.map_congr_left
      intro b hb
      have : (b < i ∨ (b = i ∧ a < j)) = (b < i ∨ (b = i ∧ a < j + 1)) := propext (by omega)
      simp only [this]
theorem isSq_of {n : Int} {ps : List (List Int)} (h : isSq n ps = true) : (1 ≤ n ∧ n ≤ 13) ∧ (ps.length : Int) = n ∧ (∀ r ∈ ps, (r.length : Int) = n) ∧ ∀ r ∈ ps, ∀ c ∈ r, isC n c = true := by
  unfold isSq at h
  simp only [Bool.and_eq_true, decide_eq_true_eq, List.all_eq_true] at h
  exact ⟨inB_of h.1.1.1, h.1.2, fun r hr => (h.2 r hr).1, fun r hr => (h.2 r hr).2⟩
theorem isC_of {n c : Int} (hn : 1 ≤ n ∧ n ≤ 13) (h : isC n c = true) (h0 : 0 ≤ c) : (0 ≤ c.tdiv 14 ∧ c.tdiv 14 ≤ n) ∧ (0 ≤ c.tmod 14 ∧ c.tmod 14 ≤ n) ∧ c.tdiv 14 < c.tmod 14 ∧ c ≤ 195 := by
  rw [isC_eq hn] at h
  rw [Bool.or_eq_true, decide_eq_true_eq] at h
  rcases h with h | h
  · omega
  · simp only [Bool.and_eq_true, Bool.not_eq_true', decide_eq_false_iff_not] at h
    have := inB_of h.1.1
    have h3 := h.1.2; have h4 := h.2
    rw [Int.tdiv_eq_ediv_of_nonneg h0, Int.tmod_eq_emod_of_nonneg h0] at *
    omega
theorem tr_all {n : Int} {ps : List (List Int)} (h : isSq n ps = true) : (∀ r ∈ tr n.toNat ps, (r.length : Int) = n) ∧ ∀ r ∈ tr n.toNat ps, ∀ c ∈ r, isC n c = true := by
  obtain ⟨hn, hl, hr, hc⟩ := isSq_of h
  constructor
  · intro r hr'
    obtain ⟨i, hi, rfl⟩ := List.mem_map.1 hr'
    rw [trw_len]; omega
  · intro r hr' c hc'
    obtain ⟨i, hi, rfl⟩ := List.mem_map.1 hr'
    obtain ⟨j, hj, rfl⟩ := List.mem_map.1 hc'
    have hi' := List.mem_range.1 hi
    have hj' := List.mem_range.1 hj
    have := hr _ (rw_mem (by omega : j < ps.length))
    exact hc _ (rw_mem (by omega : j < ps.length)) _ (rd_mem (by omega))
theorem tot_le {m : Nat} : ∀ {rs : List (List Int)}, (∀ r ∈ rs, r.length ≤ m) → totR rs ≤ m * rs.length
  | [], _ => Nat.zero_le _
  | r :: rs, h => by
    have := tot_le (rs := rs) (m := m) fun r h' => h r (List.mem_cons_of_mem _ h')
    have h0 := h r (List.mem_cons_self ..)
    have e : totR (r :: rs) = r.length + totR rs := by simp [totR]
    have e2 : m * (r :: rs).length = m * rs.length + m := by rw [List.length_cons, Nat.mul_succ]
    omega
def transSq (n : Int) (ps : List (List Int)) : Int × List (List Int) × Int := if isSq n ps then (n, tr n.toNat ps, 0) else (0, [], 1)
theorem transSq_small (n : Int) (ps : List (List Int)) : Small (transSq n ps).2.1 ∧ totR (transSq n ps).2.1 ≤ 1000 := by
  unfold transSq
  cases h : isSq n ps with
  | false => exact ⟨⟨Nat.zero_le _, fun r h => absurd h List.not_mem_nil⟩, Nat.zero_le _⟩
  | true =>
    obtain ⟨hn, hl, hr, _⟩ := isSq_of h
    obtain ⟨h1, h2⟩ := tr_all h
    have h3 := tr_len n.toNat ps
    have h4 := tot_le (rs := tr n.toNat ps) (m := 14) fun r hr => by have := h1 r hr; omega
    refine ⟨⟨?_, fun r hr => ?_⟩, ?_⟩
    · show (tr n.toNat ps).length ≤ _; omega
    · have := h1 r hr; omega
    · show totR (tr n.toNat ps) ≤ 1000; omega
theorem szTot : ∀ {rs : List (List Int)} {l : Int}, 0 ≤ l → l ≤ 1048576 → ¬ szR l rs < 0 → (totR rs : Int) ≤ l
  | [], l, h0, h1, h => by show ((0 : Nat) : Int) ≤ l; omega
  | r :: rs, l, h0, h1, h => by
    have e : totR (r :: rs) = r.length + totR rs := by simp [totR]
    unfold szR at h
    by_cases h2 : szv l r.length < 0
    · rw [if_pos h2] at h; exact absurd (by decide) h
    · rw [if_neg h2] at h
      have h3 := szv_le (n := r.length) h0
      have h4 := szTot (rs := rs) (by omega) (by omega) h
      have h5 : szv l r.length = l - r.length := by
        unfold szv at h2 ⊢
        by_cases h9 : l - (r.length : Int) < 0
        · rw [if_pos h9] at h2; exact absurd (by decide) h2
        · rw [if_neg h9]
      omega
theorem sz_tot {rs : List (List Int)} (h : ¬ (if szv 1048576 rs.length < 0 then -1 else szR (szv 1048576 rs.length) rs) < 0) : totR rs ≤ 1048576 := by
  split at h
  · exact absurd (by decide) h
  · rename_i h2
    have := szv_le (l := 1048576) (n := rs.length) (by omega)
    have := szTot (rs := rs) (by omega) (by omega) h
    omega
end Go.Proofs.Ytdafmafigcljkaa

