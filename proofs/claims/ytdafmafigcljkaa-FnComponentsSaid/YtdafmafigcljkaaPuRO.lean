/-
  RoundOf: what program and reference compute. Plain Lean, no program, no condition.
-/
import Derived.Test.YtdafmafigcljkaaDTd
import Derived.Test.YtdafmafigcljkaaPuR
namespace Go.Proofs.Ytdafmafigcljkaa
open Go Am
set_option linter.unusedVariables false
set_option linter.unusedSimpArgs false

/-! some row -/
theorem IndexFuncT_D {fu : Nat} (hf : Big fu) {rs : List (List Int)} (hl : rs.length ≤ 4294967296) {q : List Int → Option Bool} {p : List Int → Bool} (hq : ∀ r ∈ rs, q r = some (p r)) :
    ∃ x, D_slices_IndexFunc_SSint64_Sint64 fu rs q = some x ∧ decide (0 ≤ x) = rs.any p := by
  unfold Big at hf
  unfold D_slices_IndexFunc_SSint64_Sint64
  rw [loop_find (fun k => (k : Int)) (fun k => !p (rw_ rs k)) rs.length (.inl ()) (fun k => .inr (k : Int)) (by omega) ?_ ?_ ?_ (s := 0) rfl]
  · have hle := firstNot_le (fun k => !p (rw_ rs k)) rs.length
    have hsp := firstNot_spec (fun k => !p (rw_ rs k)) rs.length
    generalize hm : firstNot (fun k => !p (rw_ rs k)) rs.length = m at hle hsp
    by_cases h : m < rs.length
    · refine ⟨(m : Int), by rw [if_pos h]; rfl, ?_⟩
      have h1 : p (rw_ rs m) = true := by simpa using hsp.2 h
      rw [decide_eq_true (by omega)]
      exact (List.any_eq_true.2 ⟨_, rw_mem h, h1⟩).symm
    · refine ⟨-1, by rw [if_neg h]; rfl, ?_⟩
      have : rs.any p = false := by
        rw [List.any_eq_false]
        intro r hr
        obtain ⟨k, hk, rfl⟩ := rw_of hr
        have := hsp.1 k (by omega)
        simpa using this
      rw [this]; rfl
  all_goals first | (intro k hk hp _) | intro _
  · have hp' : p (rw_ rs k) = false := by simpa using hp
    unfold D_slices_IndexFunc_SSint64_Sint64_s0
    simp (disch := omega) only [bif_dt, chk_inR, chk_in64, Int.toNat_natCast, hq _ (rw_mem hk), Option.bind_some, hp', bif_false]
    rfl
  · have hp' : p (rw_ rs k) = true := by simpa using hp
    unfold D_slices_IndexFunc_SSint64_Sint64_s0
    simp (disch := omega) only [bif_dt, chk_inR, chk_in64, Int.toNat_natCast, hq _ (rw_mem hk), Option.bind_some, hp', bif_true]
  · unfold D_slices_IndexFunc_SSint64_Sint64_s0
    simp (disch := omega) only [bif_df]
theorem ContainsFuncT_D {fu : Nat} (hf : Big fu) {rs : List (List Int)} (hl : rs.length ≤ 4294967296) {q : List Int → Option Bool} {p : List Int → Bool} (hq : ∀ r ∈ rs, q r = some (p r)) : D_slices_ContainsFunc_SSint64_Sint64 fu rs q = some (rs.any p) := by
  obtain ⟨x, h1, h2⟩ := IndexFuncT_D hf hl hq
  unfold D_slices_ContainsFunc_SSint64_Sint64
  rw [h1, Option.bind_some, h2]

/-! the round in which all are free -/
def frI (i : Nat) : List Int := (List.range 14).map fun (j : Nat) => if j < i then (j : Int) else 0
theorem frI_len (i : Nat) : (frI i).length = 14 := by simp [frI]
theorem frI_set {i : Nat} (h : i < 14) : (frI i).set i (i : Int) = frI (i + 1) := by
  apply List.ext_getElem?
  intro j
  rw [List.getElem?_set]
  by_cases hj : i = j
  · subst hj; simp [frI, h]
  · rw [if_neg hj]
    by_cases h3 : j < 14
    · have : (j < i) = (j < i + 1) := propext (by omega)
      simp [frI, h3, this]
    · simp [frI, h3]
theorem frI_rd {i j : Nat} (h : j < 14) : rd (frI i) j = if j < i then (j : Int) else 0 := by simp [frI, rd, List.getD_eq_getElem?_getD, h]
/-! pairs that meet -/
def meet1 (r p : List Int) : List Int := (r.set (rd p 0).toNat (rd p 1)).set (rd p 1).toNat (rd p 0)
theorem meet1_len (r p : List Int) : (meet1 r p).length = r.length := by simp [meet1]
def okP (n : Int) (p : List Int) : Bool := decide (p.length = 2) && inB (rd p 0) 0 (n - 1) && inB (rd p 1) 0 (n - 1) && !decide (rd p 0 = rd p 1)
theorem okP_of {n : Int} {p : List Int} (h : okP n p = true) : p.length = 2 ∧ (0 ≤ rd p 0 ∧ rd p 0 ≤ n - 1) ∧ (0 ≤ rd p 1 ∧ rd p 1 ≤ n - 1) ∧ rd p 0 ≠ rd p 1 := by
  unfold okP at h
  simp only [Bool.and_eq_true, decide_eq_true_eq, Bool.not_eq_true', decide_eq_false_iff_not] at h
  exact ⟨h.1.1.1, inB_of h.1.1.2, inB_of h.1.2, h.2⟩
def RR (n : Int) (ps : List (List Int)) (k : Nat) : List Int := (ps.take k).foldl meet1 (frI n.toNat)
theorem RR_len (n : Int) (ps : List (List Int)) (k : Nat) : (RR n ps k).length = 14 := by
  unfold RR
  generalize ps.take k = l
  have : ∀ (l : List (List Int)) (r : List Int), r.length = 14 → (l.foldl meet1 r).length = 14 := by
    intro l
    induction l with
    | nil => intro r h; exact h
    | cons p l ih => intro r h; exact ih _ (by rw [meet1_len]; exact h)
  exact this l _ (frI_len _)
theorem RR_succ {n : Int} {ps : List (List Int)} {k : Nat} (h : k < ps.length) : RR n ps (k + 1) = meet1 (RR n ps k) (rw_ ps k) := by
  unfold RR; rw [take_rw h, List.foldl_append]; rfl
def met1 (m : List Bool) (p : List Int) : List Bool := (m.set (rd p 0).toNat true).set (rd p 1).toNat true
def MM (n : Int) (ps : List (List Int)) (k : Nat) : List Bool := (ps.take k).foldl met1 (List.replicate n.toNat false)
theorem MM_len (n : Int) (ps : List (List Int)) (k : Nat) : (MM n ps k).length = n.toNat := by
  unfold MM
  generalize ps.take k = l
  have : ∀ (l : List (List Int)) (r : List Bool), r.length = n.toNat → (l.foldl met1 r).length = n.toNat := by
    intro l
    induction l with
    | nil => intro r h; exact h
    | cons p l ih => intro r h; exact ih _ (by simp [met1]; exact h)
  exact this l _ List.length_replicate
theorem MM_succ {n : Int} {ps : List (List Int)} {k : Nat} (h : k < ps.length) : MM n ps (k + 1) = met1 (MM n ps k) (rw_ ps k) := by
  unfold MM; rw [take_rw h, List.foldl_append]; rfl
theorem rdb_set {l : List Bool} {i j : Nat} {x : Bool} (hi : i < l.length) : rdb (l.set i x) j = if i = j then x else rdb l j := by
  unfold rdb
  rw [List.getD_eq_getElem?_getD, List.getD_eq_getElem?_getD, List.getElem?_set]
  by_cases h : i = j
  · subst h; simp [hi]
  · simp [h]
def fresh (n : Int) (ps : List (List Int)) (k : Nat) : Bool := !rdb (MM n ps k) (rd (rw_ ps k) 0).toNat && !rdb (MM n ps k) (rd (rw_ ps k) 1).toNat
theorem met_inv {n : Int} (hn : 2 ≤ n ∧ n ≤ 14) {ps : List (List Int)} (hok : ∀ p ∈ ps, okP n p = true) : ∀ k, k ≤ ps.length → (∀ j, j < k → fresh n ps j = true) → ∀ a, a < n.toNat → rdb (MM n ps k) a = !decide (rd (RR n ps k) a = (a : Int))
  | 0, _, _, a, ha => by
    have h1 : rdb (MM n ps 0) a = false := by unfold MM rdb; simp [List.getD_eq_getElem?_getD, ha]
    have h2 : rd (RR n ps 0) a = (a : Int) := by show rd (frI n.toNat) a = _; rw [frI_rd (by omega), if_pos ha]
    rw [h1, h2, decide_eq_true rfl]; rfl
  | k + 1, hk, hfr, a, ha => by
    have hkl : k < ps.length := by omega
    have ih := met_inv hn hok k (by omega) (fun j hj => hfr j (by omega))
    obtain ⟨_, o1, o2, o3⟩ := okP_of (hok _ (rw_mem hkl))
    have hml := MM_len n ps k
    have hrl := RR_len n ps k
    rw [MM_succ hkl, RR_succ hkl]
    unfold met1 meet1
    rw [rdb_set (by rw [List.length_set]; omega), rdb_set (by omega), rd_set (by rw [List.length_set]; omega), rd_set (by omega)]
    by_cases e1 : (rd (rw_ ps k) 1).toNat = a
    · rw [if_pos e1, if_pos e1, decide_eq_false (by omega)]; rfl
    · rw [if_neg e1, if_neg e1]
      by_cases e0 : (rd (rw_ ps k) 0).toNat = a
      · rw [if_pos e0, if_pos e0, decide_eq_false (by omega)]; rfl
      · rw [if_neg e0, if_neg e0]; exact ih a ha
theorem fresh_R {n : Int} (hn : 2 ≤ n ∧ n ≤ 14) {ps : List (List Int)} (hok : ∀ p ∈ ps, okP n p = true) {k : Nat} (hk : k < ps.length) (hfr : ∀ j, j < k → fresh n ps j = true) :
    fresh n ps k = (decide (rd (RR n ps k) (rd (rw_ ps k) 0).toNat = rd (rw_ ps k) 0) && decide (rd (RR n ps k) (rd (rw_ ps k) 1).toNat = rd (rw_ ps k) 1)) := by
  obtain ⟨_, o1, o2, o3⟩ := okP_of (hok _ (rw_mem hk))
  have h := met_inv hn hok k (by omega) hfr
  unfold fresh
  rw [h _ (by omega), h _ (by omega), Bool.not_not, Bool.not_not]
  rw [show (((rd (rw_ ps k) 0).toNat : Nat) : Int) = rd (rw_ ps k) 0 by omega, show (((rd (rw_ ps k) 1).toNat : Nat) : Int) = rd (rw_ ps k) 1 by omega]
/-- what both answer -/
def roundOf (n : Int) (ps : List (List Int)) : List Int × Int :=
  if inB n 2 14 && decide (ps.length ≤ 14) && ps.all (okP n) then (if (List.range ps.length).all (fresh n ps) then (RR n ps ps.length, 0) else (List.replicate 14 0, 5)) else (List.replicate 14 0, 2)
theorem all_range {n : Nat} {p : Nat → Bool} : (List.range n).all p = true ↔ ¬ firstNot p n < n := by
  rw [List.all_eq_true]
  constructor
  · intro h; rw [firstNot_all.2 (fun k hk => h k (List.mem_range.2 hk))]; omega
  · intro h k hk
    have := firstNot_le p n
    exact firstNot_all.1 (by omega) k (List.mem_range.1 hk)
theorem roundOf_len (n : Int) (ps : List (List Int)) : (roundOf n ps).1.length = 14 := by
  unfold roundOf
  split
  · split
    · exact RR_len n ps _
    · exact List.length_replicate
  · exact List.length_replicate
end Go.Proofs.Ytdafmafigcljkaa

