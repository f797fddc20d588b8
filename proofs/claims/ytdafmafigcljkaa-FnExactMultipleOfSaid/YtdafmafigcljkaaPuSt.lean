/-
  Starters: what program and reference compute. Plain Lean, no program, no condition.
-/
import Derived.Test.YtdafmafigcljkaaDA
import Derived.Test.YtdafmafigcljkaaDMb
import Derived.Test.YtdafmafigcljkaaPuSq
namespace Go.Proofs.Ytdafmafigcljkaa
open Go Am
set_option linter.unusedVariables false
set_option linter.unusedSimpArgs false

def isMod (m : Int) : Bool := inB m 3 13 && decide (m.tmod 2 = 1)
theorem l03Modulus_D (fu : Nat) (m : Int) : D_spec_l03Modulus fu m = some (isMod m) := by
  unfold D_spec_l03Modulus isMod
  rw [l01In_D, Option.bind_some]
  cases inB m 3 13 <;> rfl
theorem isModulus_D (fu : Nat) (m : Int) : D_impl_isModulus fu m = some (isMod m) := by
  unfold D_impl_isModulus isMod
  rw [between_D, Option.bind_some]
  cases inB m 3 13 <;> rfl
theorem isMod_of {m : Int} (h : isMod m = true) : 3 ≤ m ∧ m ≤ 13 ∧ m % 2 = 1 := by
  unfold isMod at h
  rw [Bool.and_eq_true, decide_eq_true_eq] at h
  have := inB_of h.1
  rw [Int.tmod_eq_emod_of_nonneg (by omega)] at h
  omega
def okS (m : Int) (p : List Int) : Bool := decide (p.length = 2) && inB (rd p 0) 1 (m - 1) && inB (rd p 1) 1 (m - 1) && !decide (rd p 0 = rd p 1)
theorem okS_of {m : Int} {p : List Int} (h : okS m p = true) : p.length = 2 ∧ (1 ≤ rd p 0 ∧ rd p 0 ≤ m - 1) ∧ (1 ≤ rd p 1 ∧ rd p 1 ≤ m - 1) ∧ rd p 0 ≠ rd p 1 := by
  unfold okS at h
  simp only [Bool.and_eq_true, decide_eq_true_eq, Bool.not_eq_true', decide_eq_false_iff_not] at h
  exact ⟨h.1.1.1, inB_of h.1.1.2, inB_of h.1.2, h.2⟩
theorem arePairs1_D {fu : Nat} {m : Int} (hn : 3 ≤ m ∧ m ≤ 13) (p : List Int) : D_impl_arePairs_1 fu p m = some (!okS m p) := by
  unfold D_impl_arePairs_1 okS
  by_cases h : p.length = 2
  · have h' : ((p.length : Nat) : Int) = 2 := by omega
    generalize hd : decide (rd p 0 = rd p 1) = d
    cases h0 : inB (rd p 0) 1 (m - 1) <;> cases h1 : inB (rd p 1) 1 (m - 1) <;> cases d <;>
      simp (disch := omega) only [bif_nt, chk_inR, chk_in64, between_D, Option.bind_some, h0, h1, h, Bool.not_true, Bool.not_false, bif_true, bif_false, decide_true, Bool.true_and, Bool.false_and, hd, Bool.and_true, Bool.and_false]
  · have h' : ¬ ((p.length : Nat) : Int) = 2 := by omega
    rw [bif_nf h', decide_eq_false h]; rfl
theorem arePairs_D {fu : Nat} (hf : Big fu) {m : Int} (hn : 3 ≤ m ∧ m ≤ 13) {ps : List (List Int)} (hl : ps.length ≤ 4294967296) : D_impl_arePairs fu m ps = some (ps.all (okS m)) := by
  unfold D_impl_arePairs
  rw [ContainsFuncT_D hf hl (p := fun p => !okS m p) (fun r _ => arePairs1_D hn r), Option.bind_some, any_not, Bool.not_not]
theorem l03Lists_D {fu : Nat} (hf : Big fu) {m : Int} (hn : 3 ≤ m ∧ m ≤ 13) {ps : List (List Int)} (hl : ps.length ≤ 4294967296) : D_spec_l03Lists fu m ps = some (ps.all (okS m)) := by
  unfold Big at hf
  unfold D_spec_l03Lists
  rw [loop_all (fun k => (k : Int)) (fun k => okS m (rw_ ps k)) ps.length (by omega) ?_ ?_ ?_ (s := 0) rfl]
  · have : (List.range ps.length).all (fun k => okS m (rw_ ps k)) = ps.all (okS m) := by
      rw [Bool.eq_iff_iff, List.all_eq_true, List.all_eq_true]
      constructor
      · intro h r hr
        obtain ⟨k, hk, rfl⟩ := rw_of hr
        exact h k (List.mem_range.2 hk)
      · intro h k hk
        exact h _ (rw_mem (List.mem_range.1 hk))
    rw [this]
    cases ps.all (okS m) <;> rfl
  all_goals first | (intro k hk hp _) | intro _
  · obtain ⟨o0, o1, o2, o3⟩ := okS_of hp
    unfold D_spec_l03Lists_s0
    simp (disch := omega) only [bif_dt, chk_inR, chk_in64, Int.toNat_natCast, l01In_D, inB_t o1, inB_t o2, decide_true, o0, Bool.not_true, Option.bind_some, bif_false, decide_eq_false o3, (show (((2 : Nat) : Int) = 2) from rfl)]
    rfl
  · unfold okS at hp
    unfold D_spec_l03Lists_s0
    generalize hd : decide (rd (rw_ ps k) 0 = rd (rw_ ps k) 1) = d at hp
    generalize h0 : inB (rd (rw_ ps k) 0) 1 (m - 1) = e0 at hp
    generalize h1 : inB (rd (rw_ ps k) 1) 1 (m - 1) = e1 at hp
    by_cases hl2 : (rw_ ps k).length = 2
    · have hl2' : (((rw_ ps k).length : Nat) : Int) = 2 := by omega
      rw [decide_eq_true hl2] at hp
      cases e0 <;> cases e1 <;> cases d <;> first
        | (exact absurd hp (by decide))
        | simp (disch := omega) only [bif_dt, bif_nf, bif_nt, chk_inR, chk_in64, Int.toNat_natCast, l01In_D, h0, h1, hd, hl2, hl2', decide_true, Bool.not_true, Bool.not_false, Option.bind_some, bif_false, bif_true]
    · have hl2' : ¬ (((rw_ ps k).length : Nat) : Int) = 2 := by omega
      simp (disch := omega) only [bif_dt, chk_inR, chk_in64, Int.toNat_natCast, decide_eq_false hl2', Bool.not_false, Option.bind_some, bif_true]
  · unfold D_spec_l03Lists_s0
    simp (disch := omega) only [bif_df]
/-! keys of a map -/
def addk (K : List Int) (x : Int) : List Int := if x ∈ K then K else K ++ [x]
theorem mf_none {k : Int} : ∀ {l : List (Int × Bool)} {i : Nat}, (mf k l i).isSome = decide (k ∈ l.map (·.1))
  | [], _ => by simp [mf]
  | e :: l, i => by
    unfold mf
    by_cases h : k = e.1
    · simp [h]
    · rw [if_neg h, mf_none]; simp [h]
theorem ment_keys (l : List (Int × Bool)) (k : Int) : (ment l k).map (·.1) = addk (l.map (·.1)) k := by
  unfold ment addk
  rw [mf_none]
  by_cases h : k ∈ l.map (·.1) <;> simp [h]
theorem mst_keys (l : List (Int × Bool)) (i : Nat) (b : Bool) : (mst l i b).map (·.1) = l.map (·.1) := by
  unfold mst
  apply List.ext_getElem?
  intro j
  rw [List.getElem?_map, List.getElem?_map, List.getElem?_modify]
  by_cases h : i = j
  · subst h; cases l[i]? <;> simp
  · simp [h]
theorem addk_len (K : List Int) (x : Int) : (addk K x).length = K.length + if x ∈ K then 0 else 1 := by
  unfold addk; split <;> simp
theorem addk_mem {K : List Int} {x z : Int} : z ∈ addk K x ↔ z ∈ K ∨ z = x := by
  unfold addk; split
  · rename_i h
    constructor
    · exact .inl
    · rintro (h' | rfl)
      · exact h'
      · exact h
  · simp
/-- two numbers a round -/
def ins2 (a b : Nat → Int) : Nat → List Int
  | 0 => []
  | k + 1 => addk (addk (ins2 a b k) (a k)) (b k)
theorem ins2_len (a b : Nat → Int) : ∀ k, (ins2 a b k).length ≤ 2 * k ∧ ((ins2 a b k).length = 2 * k ↔ ∀ j, j < k → a j ∉ ins2 a b j ∧ b j ∉ ins2 a b j ∧ a j ≠ b j)
  | 0 => ⟨by simp [ins2], by simp [ins2]⟩
  | k + 1 => by
    obtain ⟨h1, h2⟩ := ins2_len a b k
    have e : (ins2 a b (k + 1)).length = (ins2 a b k).length + (if a k ∈ ins2 a b k then 0 else 1) + if b k ∈ addk (ins2 a b k) (a k) then 0 else 1 := by
      show (addk (addk _ _) _).length = _
      rw [addk_len, addk_len]
    refine ⟨by rw [e]; split <;> split <;> omega, ?_⟩
    constructor
    · intro h j hj
      rw [e] at h
      have ha : a k ∉ ins2 a b k := fun h' => by rw [if_pos h'] at h; split at h <;> omega
      have hb : b k ∉ addk (ins2 a b k) (a k) := fun h' => by rw [if_pos h'] at h; split at h <;> omega
      rw [if_neg ha, if_neg hb] at h
      rcases Nat.lt_succ_iff_lt_or_eq.1 hj with hj | rfl
      · exact h2.1 (by omega) j hj
      · exact ⟨ha, fun h' => hb (addk_mem.2 (.inl h')), fun h' => hb (addk_mem.2 (.inr h'.symm))⟩
    · intro h
      have hk := h k (by omega)
      have := h2.2 fun j hj => h j (by omega)
      rw [e, if_neg hk.1, if_neg (fun h' => (addk_mem.1 h').elim hk.2.1 (fun h'' => hk.2.2 h''.symm))]; omega
def insM (l : List (Int × Bool)) (k : Int) : List (Int × Bool) := mst (ment l k) (mi l k) true
def insL (a b : Nat → Int) : Nat → List (Int × Bool)
  | 0 => []
  | k + 1 => insM (insM (insL a b k) (a k)) (b k)
theorem insL_keys (a b : Nat → Int) : ∀ k, (insL a b k).map (·.1) = ins2 a b k
  | 0 => rfl
  | k + 1 => by
    show (insM (insM _ _) _).map (·.1) = addk (addk _ _) _
    unfold insM
    rw [mst_keys, ment_keys, mst_keys, ment_keys, insL_keys a b k]
theorem insL_len (a b : Nat → Int) (k : Nat) : (insL a b k).length = (ins2 a b k).length := by rw [← insL_keys, List.length_map]
def sx (ps : List (List Int)) (j : Nat) : Int := rd (rw_ ps j) 0
def sy (ps : List (List Int)) (j : Nat) : Int := rd (rw_ ps j) 1
def sd (ps : List (List Int)) (j : Nat) : Int := sy ps j - sx ps j
def se (m : Int) (ps : List (List Int)) (j : Nat) : Int := m - sy ps j + sx ps j
def ord (ps : List (List Int)) (j : Nat) : Bool := !decide (sy ps j < sx ps j) && (decide (j = 0) || !decide (sx ps j < sx ps (j - 1)))
def isSt (m : Int) (ps : List (List Int)) : Bool := (List.range ps.length).all (ord ps) && (decide (2 * (ps.length : Int) = m - 1) && (decide (((ins2 (sx ps) (sy ps) ps.length).length : Int) = m - 1) && decide (((ins2 (sd ps) (se m ps) ps.length).length : Int) = m - 1)))
theorem isStarter_D {fu : Nat} (hf : Big fu) {m : Int} (hn : 3 ≤ m ∧ m ≤ 13) {ps : List (List Int)} (hl : ps.length ≤ 4294967296) (hok : ∀ p ∈ ps, okS m p = true) : D_impl_isStarter fu m ps = some (isSt m ps) := by
  unfold Big at hf
  unfold D_impl_isStarter isSt
  rw [loop_find (fun k => (insL (sx ps) (sy ps) k, insL (sd ps) (se m ps) k, (k : Int))) (ord ps) ps.length (.inl (insL (sx ps) (sy ps) ps.length, insL (sd ps) (se m ps) ps.length)) (fun _ => .inr false) (by omega) ?_ ?_ ?_ (s := ([], [], 0)) rfl]
  · by_cases h : firstNot (ord ps) ps.length < ps.length
    · rw [if_pos h]
      cases ha : (List.range ps.length).all (ord ps) with
      | true => exact absurd h (all_range.1 ha)
      | false => rfl
    · rw [if_neg h, all_range.2 h]
      unfold D_impl_size_Sint64
      simp (disch := omega) only [Option.bind_some, chk_in64, Bool.true_and, insL_len]
      by_cases h1 : 2 * (ps.length : Int) = m - 1
      · rw [bif_dt h1, decide_eq_true h1]
        by_cases h2 : ((ins2 (sx ps) (sy ps) ps.length).length : Int) = m - 1
        · rw [bif_dt h2, decide_eq_true h2]; rfl
        · rw [bif_df h2, decide_eq_false h2]; rfl
      · rw [bif_df h1, decide_eq_false h1]; rfl
  all_goals first | (intro k hk hp _) | intro _
  · obtain ⟨o0, o1, o2, o3⟩ := okS_of (hok _ (rw_mem hk))
    unfold ord at hp
    rw [Bool.and_eq_true, Bool.not_eq_true', decide_eq_false_iff_not, Bool.or_eq_true, decide_eq_true_eq, Bool.not_eq_true', decide_eq_false_iff_not] at hp
    obtain ⟨hp1, hp2⟩ := hp
    unfold sx sy at hp1
    unfold D_impl_isStarter_s0
    by_cases hk0 : k = 0
    · simp (disch := omega) only [bif_dt, bif_df, chk_inR, chk_in64, Int.toNat_natCast, Option.bind_some, bif_false]
      rfl
    · have hq := (okS_of (hok _ (rw_mem (by omega : k - 1 < ps.length)))).1
      have e : ((k : Int) - 1).toNat = k - 1 := by omega
      have hp3 := hp2.resolve_left hk0
      unfold sx at hp3
      simp (disch := omega) only [bif_dt, bif_df, chk_inR, chk_in64, Int.toNat_natCast, Option.bind_some, bif_false, e, decide_eq_false hp3]
      rfl
  · obtain ⟨o0, o1, o2, o3⟩ := okS_of (hok _ (rw_mem hk))
    unfold ord at hp
    unfold D_impl_isStarter_s0
    by_cases hp1 : sy ps k < sx ps k
    · unfold sx sy at hp1
      simp (disch := omega) only [bif_dt, chk_inR, chk_in64, Int.toNat_natCast, Option.bind_some, bif_true]
    · rw [decide_eq_false hp1] at hp
      by_cases hk0 : k = 0
      · rw [decide_eq_true hk0] at hp; exact absurd hp (by simp)
      · have hp3 : sx ps k < sx ps (k - 1) := by
          rw [decide_eq_false hk0] at hp
          simpa using hp
        have hq := (okS_of (hok _ (rw_mem (by omega : k - 1 < ps.length)))).1
        have e : ((k : Int) - 1).toNat = k - 1 := by omega
        unfold sx sy at hp1
        unfold sx at hp3
        simp (disch := omega) only [bif_dt, bif_df, chk_inR, chk_in64, Int.toNat_natCast, Option.bind_some, bif_true, e, decide_eq_true hp3]
  · unfold D_impl_isStarter_s0
    simp (disch := omega) only [bif_df]
/-! the reference's marks -/
def bo (m : Int) (a b : Nat → Int) : Nat → List Bool
  | 0 => List.replicate m.toNat false
  | k + 1 => ((bo m a b k).set (a k).toNat true).set (b k).toNat true
theorem bo_len (m : Int) (a b : Nat → Int) : ∀ k, (bo m a b k).length = m.toNat
  | 0 => by simp [bo]
  | k + 1 => by simp [bo, bo_len m a b k]
theorem bo_mem {m : Int} {a b : Nat → Int} : ∀ {k : Nat}, (∀ j, j < k → (0 ≤ a j ∧ a j < m) ∧ (0 ≤ b j ∧ b j < m)) → ∀ z, 0 ≤ z → z < m → rdb (bo m a b k) z.toNat = decide (z ∈ ins2 a b k)
  | 0, _, z, h0, h1 => by
    unfold bo rdb ins2
    simp [List.getD_eq_getElem?_getD, (by omega : z.toNat < m.toNat)]
  | k + 1, h, z, h0, h1 => by
    have ih := bo_mem (k := k) (fun j hj => h j (by omega)) z h0 h1
    obtain ⟨ha, hb⟩ := h k (by omega)
    have hl := bo_len m a b k
    show rdb (((bo m a b k).set (a k).toNat true).set (b k).toNat true) _ = decide (z ∈ addk (addk _ _) _)
    rw [rdb_set (by rw [List.length_set]; omega), rdb_set (by omega), ih]
    have e : (z ∈ addk (addk (ins2 a b k) (a k)) (b k)) ↔ ((z ∈ ins2 a b k ∨ z = a k) ∨ z = b k) := by rw [addk_mem, addk_mem]
    by_cases e1 : (b k).toNat = z.toNat
    · rw [if_pos e1, decide_eq_true (e.2 (.inr (by omega)))]
    · rw [if_neg e1]
      by_cases e2 : (a k).toNat = z.toNat
      · rw [if_pos e2, decide_eq_true (e.2 (.inl (.inr (by omega))))]
      · rw [if_neg e2]
        by_cases e3 : z ∈ ins2 a b k
        · rw [decide_eq_true e3, decide_eq_true (e.2 (.inl (.inl e3)))]
        · rw [decide_eq_false e3, decide_eq_false (fun h => (e.1 h).elim (fun h => h.elim e3 (fun h => e2 (by omega))) (fun h => e1 (by omega)))]
theorem tmod_lt {m z : Int} (hm : 0 < m) : -m < z.tmod m ∧ z.tmod m < m := ⟨by have := Int.lt_tmod_of_pos z hm; omega, Int.tmod_lt_of_pos z hm⟩
theorem l03Mod_D {fu : Nat} {m z : Int} (hm : 3 ≤ m ∧ m ≤ 13) : D_spec_l03Mod fu z m = some ((z.tmod m + m).tmod m) := by
  have := tmod_lt (z := z) (by omega : 0 < m)
  unfold D_spec_l03Mod
  rw [chk_ne (by omega), chk_in64 (by omega) (by omega), chk_ne (by omega)]
theorem mod_eq {m z : Int} (hm : 0 < m) (h0 : 0 ≤ z) (h1 : z < m) : (z.tmod m + m).tmod m = z := by
  rw [Int.tmod_eq_emod_of_nonneg h0, Int.emod_eq_of_lt h0 h1, Int.tmod_eq_emod_of_nonneg (by omega), Int.add_emod_right, Int.emod_eq_of_lt h0 h1]
def good (m : Int) (ps : List (List Int)) (j : Nat) : Bool := !decide (sy ps j < sx ps j) && ((decide (j = 0) || !decide (sx ps j ≤ sx ps (j - 1))) && (!decide (sx ps j ∈ ins2 (sx ps) (sy ps) j) && (!decide (sy ps j ∈ ins2 (sx ps) (sy ps) j) && !decide (sd ps j ∈ ins2 (sd ps) (se m ps) j))))
theorem l03Is_loop {fu : Nat} (hf : Big fu) {m : Int} (hn : 3 ≤ m ∧ m ≤ 13 ∧ m % 2 = 1) {ps : List (List Int)} (hl : ps.length ≤ 4294967296) (hok : ∀ p ∈ ps, okS m p = true) :
    loopF (D_spec_l03Is_s0 fu m ps) fu ((List.replicate m.toNat false), (List.replicate m.toNat false), 0) = some (if (List.range ps.length).all (good m ps) then .inl () else .inr false) := by
  unfold Big at hf
  rw [loop_all (fun k => (bo m (sx ps) (sy ps) k, bo m (sd ps) (se m ps) k, (k : Int))) (good m ps) ps.length (by omega) ?_ ?_ ?_ (s := (List.replicate m.toNat false, List.replicate m.toNat false, 0)) rfl]
  all_goals first | (intro k hk hp hj) | intro _
  · obtain ⟨o0, o1, o2, o3⟩ := okS_of (hok _ (rw_mem hk))
    have hr : ∀ j, j < ps.length → (1 ≤ sx ps j ∧ sx ps j ≤ m - 1) ∧ (1 ≤ sy ps j ∧ sy ps j ≤ m - 1) ∧ sx ps j ≠ sy ps j := fun j hj => (okS_of (hok _ (rw_mem hj))).2
    have hg : ∀ j, j ≤ k → sx ps j ≤ sy ps j := fun j hj' => by
      have : good m ps j = true := by rcases Nat.lt_or_ge j k with h | h; exact hj j h; rw [show j = k by omega]; exact hp
      unfold good at this
      simp only [Bool.and_eq_true, Bool.not_eq_true', decide_eq_false_iff_not] at this
      omega
    have b1 := bo_mem (m := m) (a := sx ps) (b := sy ps) (k := k) (fun j hj' => by have := hr j (by omega); omega)
    have b2 := bo_mem (m := m) (a := sd ps) (b := se m ps) (k := k) (fun j hj' => by have := hr j (by omega); have := hg j (by omega); unfold sd se; omega)
    have l1 := bo_len m (sx ps) (sy ps) k
    have hgk := hg k (by omega)
    unfold good at hp
    simp only [Bool.and_eq_true, Bool.or_eq_true, Bool.not_eq_true', decide_eq_true_eq, decide_eq_false_iff_not] at hp
    obtain ⟨hp1, hp2, hp3, hp4, hp5⟩ := hp
    have c1 := b1 (sx ps k) (by have := hr k hk; omega) (by have := hr k hk; omega)
    have c2 := b1 (sy ps k) (by have := hr k hk; omega) (by have := hr k hk; omega)
    have c3 := b2 (sd ps k) (by unfold sd; omega) (by have := hr k hk; unfold sd; omega)
    rw [decide_eq_false hp3] at c1
    rw [decide_eq_false hp4] at c2
    rw [decide_eq_false hp5] at c3
    have hmod := l03Mod_D (fu := fu) (m := m) (z := sd ps k) ⟨hn.1, hn.2.1⟩
    rw [mod_eq (by omega) (by unfold sd; omega) (by have := hr k hk; unfold sd; omega)] at hmod
    have hrk := hr k hk
    unfold D_spec_l03Is_s0
    have c1' : rdb (bo m (sx ps) (sy ps) k) (rd (rw_ ps k) 0).toNat = false := c1
    have c2' : rdb (bo m (sx ps) (sy ps) k) (rd (rw_ ps k) 1).toNat = false := c2
    have c3' : rdb (bo m (sd ps) (se m ps) k) (rd (rw_ ps k) 1 - rd (rw_ ps k) 0).toNat = false := c3
    have hmod' : D_spec_l03Mod fu (rd (rw_ ps k) 1 - rd (rw_ ps k) 0) m = some (rd (rw_ ps k) 1 - rd (rw_ ps k) 0) := hmod
    have hgk' : rd (rw_ ps k) 0 ≤ rd (rw_ ps k) 1 := hgk
    clear hmod c1 c2 c3 hgk b1 b2 hrk hg hr
    have e2 : m - (rd (rw_ ps k) 1 - rd (rw_ ps k) 0) = m - rd (rw_ ps k) 1 + rd (rw_ ps k) 0 := by omega
    by_cases hk0 : k = 0
    · simp (disch := omega) only [bif_dt, bif_df, chk_inR, chk_in64, Int.toNat_natCast, Option.bind_some, bif_false, hmod', c1', c2', c3', e2]
      rfl
    · have hq := (okS_of (hok _ (rw_mem (by omega : k - 1 < ps.length)))).1
      have e : ((k : Int) - 1).toNat = k - 1 := by omega
      have hp2' : ¬ rd (rw_ ps k) 0 ≤ rd (rw_ ps (k - 1)) 0 := hp2.resolve_left hk0
      simp (disch := omega) only [bif_dt, bif_df, chk_inR, chk_in64, Int.toNat_natCast, Option.bind_some, bif_false, hmod', c1', c2', c3', e, e2]
      rfl
  · obtain ⟨o0, o1, o2, o3⟩ := okS_of (hok _ (rw_mem hk))
    have hr : ∀ j, j < ps.length → (1 ≤ sx ps j ∧ sx ps j ≤ m - 1) ∧ (1 ≤ sy ps j ∧ sy ps j ≤ m - 1) ∧ sx ps j ≠ sy ps j := fun j hj => (okS_of (hok _ (rw_mem hj))).2
    have hg : ∀ j, j < k → sx ps j ≤ sy ps j := fun j hj' => by
      have : good m ps j = true := hj j hj'
      unfold good at this
      simp only [Bool.and_eq_true, Bool.not_eq_true', decide_eq_false_iff_not] at this
      omega
    have b1 := bo_mem (m := m) (a := sx ps) (b := sy ps) (k := k) (fun j hj' => by have := hr j (by omega); omega)
    have b2 := bo_mem (m := m) (a := sd ps) (b := se m ps) (k := k) (fun j hj' => by have := hr j (by omega); have := hg j hj'; unfold sd se; omega)
    have hmod := l03Mod_D (fu := fu) (m := m) (z := sd ps k) ⟨hn.1, hn.2.1⟩
    have hrk := hr k hk
    unfold D_spec_l03Is_s0
    by_cases hlt : sy ps k < sx ps k
    · have hlt' : rd (rw_ ps k) 1 < rd (rw_ ps k) 0 := hlt
      have hmod' : D_spec_l03Mod fu (rd (rw_ ps k) 1 - rd (rw_ ps k) 0) m = some (((rd (rw_ ps k) 1 - rd (rw_ ps k) 0).tmod m + m).tmod m) := hmod
      simp (disch := omega) only [bif_dt, chk_inR, chk_in64, Int.toNat_natCast, Option.bind_some, bif_true, hmod']
    · have c1 : rdb (bo m (sx ps) (sy ps) k) (rd (rw_ ps k) 0).toNat = decide (sx ps k ∈ ins2 (sx ps) (sy ps) k) := b1 (sx ps k) (by omega) (by omega)
      have c2 : rdb (bo m (sx ps) (sy ps) k) (rd (rw_ ps k) 1).toNat = decide (sy ps k ∈ ins2 (sx ps) (sy ps) k) := b1 (sy ps k) (by omega) (by omega)
      have c3 : rdb (bo m (sd ps) (se m ps) k) (rd (rw_ ps k) 1 - rd (rw_ ps k) 0).toNat = decide (sd ps k ∈ ins2 (sd ps) (se m ps) k) := b2 (sd ps k) (by unfold sd; omega) (by unfold sd; omega)
      rw [mod_eq (by omega) (by unfold sd; omega) (by unfold sd; omega)] at hmod
      have hmod' : D_spec_l03Mod fu (rd (rw_ ps k) 1 - rd (rw_ ps k) 0) m = some (rd (rw_ ps k) 1 - rd (rw_ ps k) 0) := hmod
      have hlt' : ¬ rd (rw_ ps k) 1 < rd (rw_ ps k) 0 := hlt
      unfold good at hp
      rw [decide_eq_false hlt] at hp
      generalize decide (sx ps k ∈ ins2 (sx ps) (sy ps) k) = d1 at hp c1
      generalize decide (sy ps k ∈ ins2 (sx ps) (sy ps) k) = d2 at hp c2
      generalize decide (sd ps k ∈ ins2 (sd ps) (se m ps) k) = d3 at hp c3
      by_cases hk0 : k = 0
      · rw [decide_eq_true hk0] at hp
        cases d1 <;> cases d2 <;> cases d3 <;> first
          | (simp at hp; done)
          | simp (disch := omega) only [bif_dt, bif_df, chk_inR, chk_in64, Int.toNat_natCast, Option.bind_some, bif_true, bif_false, hmod', c1, c2, c3]
      · have hq := (okS_of (hok _ (rw_mem (by omega : k - 1 < ps.length)))).1
        have e : ((k : Int) - 1).toNat = k - 1 := by omega
        by_cases hle : sx ps k ≤ sx ps (k - 1)
        · have hle' : rd (rw_ ps k) 0 ≤ rd (rw_ ps (k - 1)) 0 := hle
          simp (disch := omega) only [bif_dt, bif_df, chk_inR, chk_in64, Int.toNat_natCast, Option.bind_some, bif_true, bif_false, hmod', e]
        · have hle' : ¬ rd (rw_ ps k) 0 ≤ rd (rw_ ps (k - 1)) 0 := hle
          rw [decide_eq_false hk0, decide_eq_false hle] at hp
          cases d1 <;> cases d2 <;> cases d3 <;> first
            | (simp at hp; done)
            | simp (disch := omega) only [bif_dt, bif_df, chk_inR, chk_in64, Int.toNat_natCast, Option.bind_some, bif_true, bif_false, hmod', e, c1, c2, c3]
  · unfold D_spec_l03Is_s0
    simp (disch := omega) only [bif_df]
theorem prev_mem {ps : List (List Int)} {j : Nat} (h : j ≠ 0) : sx ps (j - 1) ∈ ins2 (sx ps) (sy ps) j := by
  obtain ⟨i, rfl⟩ : ∃ i, j = i + 1 := ⟨j - 1, by omega⟩
  show sx ps i ∈ addk (addk _ _) _
  rw [addk_mem, addk_mem]; exact .inl (.inr rfl)
theorem ins2_sym {m : Int} {ps : List (List Int)} : ∀ {k : Nat} {z : Int}, m - z ∈ ins2 (sd ps) (se m ps) k ↔ z ∈ ins2 (sd ps) (se m ps) k
  | 0, z => by simp [ins2]
  | k + 1, z => by
    show m - z ∈ addk (addk _ _) _ ↔ z ∈ addk (addk _ _) _
    rw [addk_mem, addk_mem, addk_mem, addk_mem, ins2_sym]
    have e1 : m - z = sd ps k ↔ z = se m ps k := by unfold sd se; omega
    have e2 : m - z = se m ps k ↔ z = sd ps k := by unfold sd se; omega
    rw [e1, e2, or_assoc, or_assoc, or_comm (a := z = se m ps k)]
theorem st_eq {m : Int} (hn : 3 ≤ m ∧ m ≤ 13 ∧ m % 2 = 1) {ps : List (List Int)} (hok : ∀ p ∈ ps, okS m p = true) :
    (decide ((ps.length : Int) = (m - 1).tdiv 2) && (List.range ps.length).all (good m ps)) = isSt m ps := by
  have hr : ∀ j, j < ps.length → (1 ≤ sx ps j ∧ sx ps j ≤ m - 1) ∧ (1 ≤ sy ps j ∧ sy ps j ≤ m - 1) ∧ sx ps j ≠ sy ps j := fun j hj => (okS_of (hok _ (rw_mem hj))).2
  have hd : (m - 1).tdiv 2 = (m - 1) / 2 := Int.tdiv_eq_ediv_of_nonneg (by omega)
  unfold isSt
  by_cases h : 2 * (ps.length : Int) = m - 1
  · rw [decide_eq_true h, decide_eq_true (by rw [hd]; omega), Bool.true_and, Bool.true_and, Bool.eq_iff_iff]
    simp only [Bool.and_eq_true, List.all_eq_true, List.mem_range, decide_eq_true_eq]
    have k1 := (ins2_len (sx ps) (sy ps) ps.length).2
    have k2 := (ins2_len (sd ps) (se m ps) ps.length).2
    constructor
    · intro hg
      have hg' : ∀ j, j < ps.length → ¬ sy ps j < sx ps j ∧ (j = 0 ∨ ¬ sx ps j ≤ sx ps (j - 1)) ∧ sx ps j ∉ ins2 (sx ps) (sy ps) j ∧ sy ps j ∉ ins2 (sx ps) (sy ps) j ∧ sd ps j ∉ ins2 (sd ps) (se m ps) j := fun j hj => by
        have := hg j hj
        unfold good at this
        simpa only [Bool.and_eq_true, Bool.or_eq_true, Bool.not_eq_true', decide_eq_true_eq, decide_eq_false_iff_not] using this
      refine ⟨fun j hj => ?_, ?_, ?_⟩
      · have := hg' j hj
        unfold ord
        simp only [Bool.and_eq_true, Bool.or_eq_true, Bool.not_eq_true', decide_eq_true_eq, decide_eq_false_iff_not]
        omega
      · have := k1.2 fun j hj => ⟨(hg' j hj).2.2.1, (hg' j hj).2.2.2.1, (hr j hj).2.2⟩
        omega
      · have := k2.2 fun j hj => ⟨(hg' j hj).2.2.2.2, fun h' => (hg' j hj).2.2.2.2 (by rw [← ins2_sym]; rw [show m - sd ps j = se m ps j by unfold sd se; omega]; exact h'), by unfold sd se; omega⟩
        omega
    · rintro ⟨h1, h2, h3⟩ j hj
      have a1 := k1.1 (by omega) j hj
      have a2 := k2.1 (by omega) j hj
      have h1' := h1 j hj
      unfold ord at h1'
      unfold good
      simp only [Bool.and_eq_true, Bool.or_eq_true, Bool.not_eq_true', decide_eq_true_eq, decide_eq_false_iff_not] at h1' ⊢
      refine ⟨h1'.1, ?_, a1.1, a1.2.1, a2.1⟩
      by_cases h0 : j = 0
      · exact .inl h0
      · refine .inr fun hle => ?_
        have := h1'.2.resolve_left h0
        exact a1.1 ((show sx ps j = sx ps (j - 1) by omega) ▸ prev_mem h0)
  · rw [decide_eq_false h, decide_eq_false (by rw [hd]; omega)]; simp
end Go.Proofs.Ytdafmafigcljkaa

