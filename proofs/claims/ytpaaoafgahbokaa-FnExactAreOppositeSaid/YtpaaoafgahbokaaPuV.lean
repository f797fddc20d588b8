
/-
  FirstVenues, AreVenues: what program and reference compute, and the laws. Plain Lean, no program, no condition.
-/
import Derived.Test.YtpaaoafgahbokaaPuT
import Derived.Test.YtpaaoafgahbokaaDV
namespace Go.Proofs.Ytpaaoafgahbokaa
open Go Am
set_option linter.unusedVariables false
set_option linter.unusedSimpArgs false

/-! a list that is being written -/
def part (f : Nat → Int) (n k : Nat) : List Int := (List.range n).map fun a => if a < k then f a else 0
theorem part_len (f : Nat → Int) (n k : Nat) : (part f n k).length = n := by simp [part]
theorem part_zero (f : Nat → Int) (n : Nat) : part f n 0 = List.replicate n 0 := by
  apply List.ext_getElem?
  intro j
  by_cases h : j < n <;> simp [part, h, List.getElem?_replicate]
theorem part_set {f : Nat → Int} {n k : Nat} (h : k < n) : (part f n k).set k (f k) = part f n (k + 1) := by
  apply ints_ext
  · rw [List.length_set, part_len, part_len]
  · intro j hj
    rw [List.length_set, part_len] at hj
    rw [rd_set (by rw [part_len]; exact h)]
    unfold part
    rw [rd_map hj, rd_map hj]
    by_cases e : k = j
    · subst e; rw [if_pos rfl, if_pos (by omega)]
    · rw [if_neg e]
      have : (j < k) = (j < k + 1) := propext (by omega)
      simp only [this]
theorem part_skip {f : Nat → Int} {n k : Nat} (h : f k = 0) : part f n k = part f n (k + 1) := by
  unfold part
  apply List.map_congr_left
  intro j hj
  by_cases e : j = k
  · subst e; rw [if_neg (by omega), if_pos (by omega), h]
  · have : (j < k) = (j < k + 1) := propext (by omega)
    simp only [this]
theorem part_full (f : Nat → Int) (n : Nat) : part f n n = (List.range n).map f := by
  unfold part
  apply List.map_congr_left
  intro j hj
  rw [if_pos (List.mem_range.1 hj)]
def fv1 (r : List Int) (a : Nat) : Int := if (a : Int) = rd r a then -1 else if (a : Int) < rd r a then 1 else 0
def fvRow (n : Int) (r : List Int) : List Int := (List.range n.toNat).map (fv1 r)
theorem fvRow_len (n : Int) (r : List Int) : (fvRow n r).length = n.toNat := by simp [fvRow]
theorem map_take {f : List Int → List Int} {rs : List (List Int)} {k : Nat} (h : k < rs.length) : (rs.take k).map f ++ [f (rw_ rs k)] = (rs.take (k + 1)).map f := by rw [take_rw h, List.map_append]; rfl
theorem l05First_D {fu : Nat} (hf : Big fu) {n : Int} {rs : List (List Int)} (hn : 0 ≤ n ∧ n ≤ 14) (hl : rs.length ≤ 40) : D_spec_l05First fu n rs = some (rs.map (fvRow n)) := by
  unfold Big at hf
  unfold D_spec_l05First
  rw [loop_seq (fun k => ((rs.take k).map (fvRow n), (k : Int))) rs.length (rs.map (fvRow n)) (by omega) ?_ ?_ (s := ([], 0)) rfl]
  · rfl
  · intro i hi
    unfold D_spec_l05First_s0
    dsimp only
    rw [bif_dt (by omega)]
    rw [loop_seq (fun k => ((List.range k).map (fv1 (rw_ rs i)), (k : Int))) n.toNat (fvRow n (rw_ rs i)) (by omega) ?_ ?_ (s := ([], 0)) rfl]
    · have : ((rs.take i).map (fvRow n)).length ≤ i := by rw [List.length_map, List.length_take]; omega
      simp (disch := omega) only [Option.bind_some, chk_le, chk_in64, map_take hi]; rfl
    · intro j hj
      have : ((List.range j).map (fv1 (rw_ rs i))).length = j := by simp
      unfold D_spec_l05First_s1
      dsimp only
      rw [← range_app (fv1 (rw_ rs i))]
      unfold fv1
      rw [bif_dt (by omega), chk_inR (by omega) (by omega), chk_inR (by omega) (by omega), Int.toNat_natCast, Int.toNat_natCast]
      by_cases e : (j : Int) = rd (rw_ rs i) j
      · rw [bif_dt e, if_pos e, chk_le (by simp; omega), chk_in64 (by omega) (by omega)]; rfl
      · rw [bif_df e, if_neg e]
        by_cases e2 : (j : Int) < rd (rw_ rs i) j
        · rw [bif_dt e2, if_pos e2, chk_le (by simp; omega), chk_in64 (by omega) (by omega)]; rfl
        · rw [bif_df e2, if_neg e2, chk_le (by simp; omega), chk_in64 (by omega) (by omega)]; rfl
    · unfold D_spec_l05First_s1
      simp (disch := omega) only [bif_df]; rfl
  · unfold D_spec_l05First_s0
    simp (disch := omega) only [bif_df, List.take_length]
theorem firstVenues_D {fu : Nat} (hf : Big fu) {n : Int} {rs : List (List Int)} (hn : 0 ≤ n ∧ n ≤ 14) (hl : rs.length ≤ 40) : D_impl_Schedule_firstVenues fu n rs = some (rs.map (fvRow n)) := by
  unfold Big at hf
  unfold D_impl_Schedule_firstVenues
  rw [loop_seq (fun k => ((rs.take k).map (fvRow n), (k : Int))) rs.length (rs.map (fvRow n)) (by omega) ?_ ?_ (s := ([], 0)) rfl]
  · rfl
  · intro i hi
    unfold D_impl_Schedule_firstVenues_s0
    dsimp only
    rw [bif_dt (by omega), chk_inR (by omega) (by omega), chk_and (by omega) (by omega)]
    rw [loop_seq (fun k => (part (fv1 (rw_ rs i)) n.toNat k, (k : Int))) n.toNat (fvRow n (rw_ rs i)) (by omega) ?_ ?_ (s := (List.replicate n.toNat 0, 0)) (by rw [part_zero]; rfl)]
    · have : ((rs.take i).map (fvRow n)).length ≤ i := by rw [List.length_map, List.length_take]; omega
      simp (disch := omega) only [Option.bind_some, chk_le, chk_in64, map_take hi]; rfl
    · intro j hj
      unfold D_impl_Schedule_firstVenues_s1
      dsimp only
      rw [bif_dt (by omega), chk_inR (by omega) (by omega), Int.toNat_natCast, Int.toNat_natCast]
      by_cases e : rd (rw_ rs i) j = (j : Int)
      · have h1 : fv1 (rw_ rs i) j = -1 := by unfold fv1; rw [if_pos e.symm]
        rw [bif_dt e, chk_inR (by omega) (by omega), chk_in64 (by omega) (by omega), ← part_set hj, h1]; rfl
      · rw [bif_df e, chk_inR (by omega) (by omega)]
        by_cases e2 : (j : Int) < rd (rw_ rs i) j
        · have h1 : fv1 (rw_ rs i) j = 1 := by unfold fv1; rw [if_neg (fun h => e h.symm), if_pos e2]
          rw [bif_dt e2, chk_inR (by omega) (by omega), chk_in64 (by omega) (by omega), ← part_set hj, h1]; rfl
        · have h1 : fv1 (rw_ rs i) j = 0 := by unfold fv1; rw [if_neg (fun h => e h.symm), if_neg e2]
          rw [bif_df e2, chk_in64 (by omega) (by omega), ← part_skip h1]; rfl
    · unfold D_impl_Schedule_firstVenues_s1
      simp (disch := omega) only [bif_df, part_full]; rfl
  · unfold D_impl_Schedule_firstVenues_s0
    simp (disch := omega) only [bif_df, List.take_length]
def firstV (n : Int) (rs : List (List Int)) : List (List Int) × Int := if isSch n rs then (rs.map (fvRow n), 0) else ([], 1)
theorem firstV_eqs {fu : Nat} (hf : Big fu) (n : Int) {rs : List (List Int)} (hA : All 14 rs) (hl : rs.length ≤ 4294967296) : D_spec_FirstVenues fu n rs = some (firstV n rs) ∧ D_impl_FirstVenues fu n rs = some (firstV n rs) := by
  unfold D_spec_FirstVenues D_impl_FirstVenues firstV
  rw [l01Is_D hf n hA hl, scheduleCode_D hf n hA hl (b := true) (fun _ => rfl), Option.bind_some, Option.bind_some]
  cases h : isSch n rs with
  | false => exact ⟨rfl, rfl⟩
  | true =>
    obtain ⟨hn, h40⟩ := isSch_of h
    rw [l05First_D hf ⟨by omega, by omega⟩ h40, firstVenues_D hf ⟨by omega, by omega⟩ h40]
    exact ⟨rfl, rfl⟩
theorem firstV_small (n : Int) (rs : List (List Int)) : Small (firstV n rs).1 ∧ totR (firstV n rs).1 ≤ 1000 := by
  unfold firstV
  split
  · rename_i h
    obtain ⟨hn, h40⟩ := isSch_of h
    have h1 : ∀ r ∈ rs.map (fvRow n), r.length ≤ 14 := by
      intro r hr
      obtain ⟨q, hq, rfl⟩ := List.mem_map.1 hr
      rw [fvRow_len]; omega
    have h4 := tot_le h1
    have h5 : (rs.map (fvRow n)).length = rs.length := List.length_map ..
    refine ⟨⟨?_, fun r hr => ?_⟩, ?_⟩
    · show (rs.map (fvRow n)).length ≤ _; omega
    · have := h1 r hr; omega
    · show totR (rs.map (fvRow n)) ≤ 1000; omega
  · exact ⟨⟨Nat.zero_le _, fun r h => absurd h List.not_mem_nil⟩, Nat.zero_le _⟩
theorem firstV_law {fu : Nat} (hf : Big fu) (n : Int) {rs : List (List Int)} (hA : All 14 rs) (hl : rs.length ≤ 9223372036854775807) : D_laws_FnExactFirstVenues fu n rs = some true := by
  unfold D_laws_FnExactFirstVenues
  rw [szSchedule_D (by omega) (by omega) hl, Option.bind_some]
  by_cases h : szv 1048576 rs.length < 0
  · rw [bif_dt h]
  · have hz := szv_pos h
    have hl' : rs.length ≤ 4294967296 := by omega
    have t1 := tot14 hA
    rw [bif_df h]
    obtain ⟨e1, e2⟩ := firstV_eqs hf n hA hl'
    obtain ⟨w1, w2⟩ := firstV_small n rs
    generalize firstV n rs = w at e1 e2 w1 w2
    obtain ⟨ws, c⟩ := w
    have m1 := markSchedule_D hf (n := n) (k := 1) hA hl' (by omega) (by omega)
    have m2 := markInt64SS_D hf (k := 1) w1 (by omega) (by omega)
    have m3 := heldInt64SS_D hf (k := 1) w1 (by omega) (by omega)
    simp (disch := omega) only [toSchedule_D hf hA hl', e1, e2, Option.bind_some, eqSchedule_D hf hA hA hl', eqInt64SS_D hf w1, decide_true, Bool.and_true, Bool.not_true, bif_false, m1, m2, m3, bif_df, bif_nt]

/-! AreVenues -/
def formV (n : Int) (rs vs : List (List Int)) : Bool := decide (vs.length = rs.length) && vs.all fun v => decide ((v.length : Int) = n) && v.all fun x => inB x (-1) 1
theorem formRow_D {fu : Nat} (hf : Big fu) {vs : List (List Int)} {i : Nat} (hi : i < vs.length) (hl : i < 4294967296) (hv : (rw_ vs i).length ≤ 4294967296) : loopF (D_spec_l05Form_s1 fu vs (i : Int)) fu 0 = some (if (rw_ vs i).all (fun x => inB x (-1) 1) then .inl () else .inr 2) := by
  unfold Big at hf
  rw [loop_find (fun k => (k : Int)) (fun k => inB (rd (rw_ vs i) k) (-1) 1) (rw_ vs i).length (.inl ()) (fun _ => .inr 2) (by omega) ?_ ?_ ?_ (s := 0) rfl]
  · rw [← all_rd (p := fun x => inB x (-1) 1)]
    by_cases h : firstNot (fun k => inB (rd (rw_ vs i) k) (-1) 1) (rw_ vs i).length < (rw_ vs i).length
    · rw [if_pos h, if_neg (fun h' => all_range.1 h' h)]
    · rw [if_neg h, if_pos (all_range.2 h)]
  all_goals first | (intro k hk hp _) | intro _
  all_goals unfold D_spec_l05Form_s1
  · simp (disch := omega) only [chk_inR, chk_in64, bif_dt, Int.toNat_natCast, l01In_D, hp, Option.bind_some, Bool.not_true, bif_false]; rfl
  · simp (disch := omega) only [chk_inR, chk_in64, bif_dt, Int.toNat_natCast, l01In_D, hp, Option.bind_some, Bool.not_false, bif_true]
  · simp (disch := omega) only [chk_inR, Int.toNat_natCast, bif_df]
theorem l05Form_D {fu : Nat} (hf : Big fu) (n : Int) {rs : List (List Int)} (hA : All 14 rs) (hl : rs.length ≤ 4294967296) {vs : List (List Int)} (hs : Small vs) : D_spec_l05Form fu n rs vs = some (if isSch n rs then if formV n rs vs then 0 else 2 else 1) := by
  have hf' := hf
  unfold Big at hf
  unfold D_spec_l05Form formV
  rw [l01Is_D hf' n hA hl, Option.bind_some]
  cases h : isSch n rs with
  | false => rfl
  | true =>
    obtain ⟨hn, h40⟩ := isSch_of h
    rw [Bool.not_true, bif_false, if_pos rfl]
    by_cases e : vs.length = rs.length
    · rw [bif_nt (by omega), decide_eq_true e, Bool.true_and]
      rw [loop_find (fun k => (k : Int)) (fun k => decide (((rw_ vs k).length : Int) = n) && (rw_ vs k).all fun x => inB x (-1) 1) vs.length (.inl ()) (fun _ => .inr 2) (by omega) ?_ ?_ ?_ (s := 0) rfl]
      · rw [← all_rw (p := fun v => decide ((v.length : Int) = n) && v.all fun x => inB x (-1) 1)]
        by_cases h : firstNot (fun k => decide (((rw_ vs k).length : Int) = n) && (rw_ vs k).all fun x => inB x (-1) 1) vs.length < vs.length
        · rw [if_pos h, if_neg (fun h' => all_range.1 h' h)]; rfl
        · rw [if_neg h, if_pos (all_range.2 h)]; rfl
      all_goals first | (intro k hk hp _) | intro _
      all_goals unfold D_spec_l05Form_s0
      · have hv := hs.2 _ (rw_mem hk)
        obtain ⟨hp1, hp2⟩ := Bool.and_eq_true_iff.1 hp
        rw [decide_eq_true_eq] at hp1
        rw [bif_dt (by omega), chk_inR (by omega) (by omega), Int.toNat_natCast, bif_nt hp1, formRow_D hf' hk (by omega) hv, hp2]
        simp (disch := omega) only [if_true, Option.bind_some, chk_in64]; rfl
      · have hv := hs.2 _ (rw_mem hk)
        rw [bif_dt (by omega), chk_inR (by omega) (by omega), Int.toNat_natCast]
        by_cases hp1 : ((rw_ vs k).length : Int) = n
        · have hp2 : (rw_ vs k).all (fun x => inB x (-1) 1) = false := by rw [decide_eq_true hp1, Bool.true_and] at hp; exact hp
          rw [bif_nt hp1, formRow_D hf' hk (by omega) hv, hp2]; rfl
        · rw [bif_nf hp1]
      · simp (disch := omega) only [bif_df]
    · rw [bif_nf (by omega), decide_eq_false e]; rfl
theorem haveForm_D {fu : Nat} (hf : Big fu) (n : Int) {rs vs : List (List Int)} (hs : Small vs) : D_impl_Schedule_haveForm fu n rs vs = some (formV n rs vs) := by
  have hf' := hf
  unfold Big at hf
  unfold D_impl_Schedule_haveForm formV
  by_cases e : vs.length = rs.length
  · rw [bif_dt (by omega), decide_eq_true e, Bool.true_and, ContainsFuncT_D hf' hs.1 (p := fun v => !(decide ((v.length : Int) = n) && v.all fun x => inB x (-1) 1))]
    · rw [Option.bind_some, Option.bind_some, any_not, Bool.not_not]
    · intro r hr
      unfold D_impl_Schedule_haveForm_1 D_impl_size_int64
      rw [Option.bind_some]
      by_cases hrl : (r.length : Int) = n
      · rw [bif_nt hrl, decide_eq_true hrl, ContainsFuncI_D hf' (hs.2 r hr) (p := fun x => !inB x (-1) 1)]
        · rw [Option.bind_some, Option.bind_some, any_not]; rfl
        · intro x hx
          unfold D_impl_Schedule_haveForm_1_1
          rw [between_D]; rfl
      · rw [bif_nf hrl, decide_eq_false hrl]; rfl
  · rw [bif_df (by omega), decide_eq_false e]; rfl
def areAt (r v : List Int) (a : Nat) : Bool := if rd r a = a then decide (rd v a = -1) else decide (0 ≤ rd v a) && decide (rd v a + rd v (rd r a).toNat = 1)
def areV (n : Int) (rs vs : List (List Int)) : Bool := (List.range rs.length).all fun i => (List.range n.toNat).all (areAt (rw_ rs i) (rw_ vs i))
theorem isRnd_at {n : Int} {r : List Int} (hn : n ≤ 14) (h : isRnd n r = true) {a : Nat} (ha : (a : Int) < n) : 0 ≤ rd r a ∧ rd r a ≤ n - 1 := by
  unfold isRnd at h
  rw [Bool.and_eq_true, List.all_eq_true] at h
  have := h.2 a (List.mem_range.2 (by omega))
  unfold rndAt at this
  rw [if_pos ha, Bool.and_eq_true] at this
  exact inB_of this.1
theorem formV_of {n : Int} {rs vs : List (List Int)} (h : formV n rs vs = true) : vs.length = rs.length ∧ ∀ v ∈ vs, (v.length : Int) = n ∧ ∀ x ∈ v, -1 ≤ x ∧ x ≤ 1 := by
  unfold formV at h
  simp only [Bool.and_eq_true, decide_eq_true_eq, List.all_eq_true] at h
  exact ⟨h.1, fun v hv => ⟨(h.2 v hv).1, fun x hx => inB_of ((h.2 v hv).2 x hx)⟩⟩
theorem isSch_all {n : Int} {rs : List (List Int)} (h : isSch n rs = true) : ∀ r ∈ rs, isRnd n r = true := by
  unfold isSch at h
  rw [Bool.and_eq_true, List.all_eq_true] at h
  exact h.2
theorem sAre_D {fu : Nat} (hf : Big fu) {n : Int} {rs vs : List (List Int)} (h : isSch n rs = true) (hv : formV n rs vs = true) : D_spec_l05Are fu n rs vs = some (areV n rs vs) := by
  unfold Big at hf
  obtain ⟨hn, h40⟩ := isSch_of h
  obtain ⟨f1, f2⟩ := formV_of hv
  unfold D_spec_l05Are areV
  have hin : ∀ i, i < rs.length → loopF (D_spec_l05Are_s1 fu n rs vs (i : Int)) fu 0 = some (if (List.range n.toNat).all (areAt (rw_ rs i) (rw_ vs i)) then .inl () else .inr false) := by
    intro i hi
    have hr := isSch_all h _ (rw_mem hi)
    obtain ⟨v1, v2⟩ := f2 _ (rw_mem (by omega : i < vs.length))
    rw [loop_all (fun k => (k : Int)) (areAt (rw_ rs i) (rw_ vs i)) n.toNat (by omega) ?_ ?_ ?_ (s := 0) rfl]
    all_goals first | (intro k hk hp _) | intro _
    · have hb := isRnd_at hn.2 hr (a := k) (by omega)
      have x1 := v2 _ (rd_mem (by omega : k < (rw_ vs i).length))
      have x2 := v2 _ (rd_mem (by omega : (rd (rw_ rs i) k).toNat < (rw_ vs i).length))
      unfold areAt at hp
      unfold D_spec_l05Are_s1
      rw [bif_dt (by omega), chk_inR (by omega) (by omega), chk_inR (by omega) (by omega), Int.toNat_natCast, Int.toNat_natCast]
      by_cases e : rd (rw_ rs i) k = (k : Int)
      · rw [if_pos e, decide_eq_true_eq] at hp
        simp (disch := omega) only [bif_dt, bif_nt, chk_inR, chk_in64, hp, decide_true, Bool.not_true, bif_false, Option.bind_some, e]; rfl
      · rw [if_neg e, Bool.and_eq_true, decide_eq_true_eq, decide_eq_true_eq] at hp
        simp (disch := omega) only [bif_df, bif_nf, chk_inR, chk_in64, hp.2, decide_true, Bool.not_true, bif_false, Option.bind_some]; rfl
    · have hb := isRnd_at hn.2 hr (a := k) (by omega)
      have x1 := v2 _ (rd_mem (by omega : k < (rw_ vs i).length))
      have x2 := v2 _ (rd_mem (by omega : (rd (rw_ rs i) k).toNat < (rw_ vs i).length))
      unfold areAt at hp
      unfold D_spec_l05Are_s1
      rw [bif_dt (by omega), chk_inR (by omega) (by omega), chk_inR (by omega) (by omega), Int.toNat_natCast, Int.toNat_natCast]
      by_cases e : rd (rw_ rs i) k = (k : Int)
      · rw [if_pos e, decide_eq_false_iff_not] at hp
        simp (disch := omega) only [bif_dt, bif_nf, chk_inR, chk_in64, bif_true, Option.bind_some]
      · rw [if_neg e] at hp
        rw [bif_df (by omega), bif_nf (by omega), chk_inR (by omega) (by omega), chk_inR (by omega) (by omega)]
        by_cases e1 : rd (rw_ vs i) k < 0
        · rw [bif_dt e1]; rfl
        · rw [decide_eq_true (by omega), Bool.true_and, decide_eq_false_iff_not] at hp
          simp (disch := omega) only [bif_df, chk_inR, chk_in64, decide_eq_false hp, Bool.not_false, bif_true, Option.bind_some]
    · unfold D_spec_l05Are_s1
      simp (disch := omega) only [bif_df]
  rw [loop_all (fun k => (k : Int)) (fun i => (List.range n.toNat).all (areAt (rw_ rs i) (rw_ vs i))) rs.length (by omega) ?_ ?_ ?_ (s := 0) rfl]
  · split
    · rename_i h; rw [h]; rfl
    · rename_i h; rw [Bool.not_eq_true] at h; rw [h]; rfl
  all_goals first | (intro k hk hp _) | intro _
  all_goals unfold D_spec_l05Are_s0
  · rw [bif_dt (by omega), hin k hk, if_pos hp, Option.bind_some]
    simp (disch := omega) only [chk_in64]; rfl
  · rw [bif_dt (by omega), hin k hk, hp]; rfl
  · simp (disch := omega) only [bif_df]
theorem iAre_D {fu : Nat} (hf : Big fu) {n : Int} {rs vs : List (List Int)} (h : isSch n rs = true) (hv : formV n rs vs = true) : D_impl_Schedule_areVenues fu n rs vs = some (areV n rs vs) := by
  unfold Big at hf
  obtain ⟨hn, h40⟩ := isSch_of h
  obtain ⟨f1, f2⟩ := formV_of hv
  unfold D_impl_Schedule_areVenues areV
  have hin : ∀ i, i < rs.length → loopF (D_impl_Schedule_areVenues_s1 fu n rs vs (i : Int)) fu 0 = some (if (List.range n.toNat).all (areAt (rw_ rs i) (rw_ vs i)) then .inl () else .inr false) := by
    intro i hi
    have hr := isSch_all h _ (rw_mem hi)
    obtain ⟨v1, v2⟩ := f2 _ (rw_mem (by omega : i < vs.length))
    rw [loop_all (fun k => (k : Int)) (areAt (rw_ rs i) (rw_ vs i)) n.toNat (by omega) ?_ ?_ ?_ (s := 0) rfl]
    all_goals first | (intro k hk hp _) | intro _
    · have hb := isRnd_at hn.2 hr (a := k) (by omega)
      have x1 := v2 _ (rd_mem (by omega : k < (rw_ vs i).length))
      have x2 := v2 _ (rd_mem (by omega : (rd (rw_ rs i) k).toNat < (rw_ vs i).length))
      unfold areAt at hp
      unfold D_impl_Schedule_areVenues_s1
      rw [bif_dt (by omega)]
      simp (disch := omega) only [chk_inR, Int.toNat_natCast]
      by_cases e : rd (rw_ rs i) k = (k : Int)
      · rw [if_pos e, decide_eq_true_eq] at hp
        rw [decide_eq_true e, decide_eq_true (by omega : rd (rw_ vs i) k < 0)]
        simp (disch := omega) only [chk_in64, beq_self_eq_true, Bool.not_true, bif_false, Option.bind_some]; rfl
      · rw [if_neg e, Bool.and_eq_true, decide_eq_true_eq, decide_eq_true_eq] at hp
        rw [decide_eq_false e, decide_eq_false (by omega : ¬ rd (rw_ vs i) k < 0)]
        simp (disch := omega) only [chk_in64, beq_self_eq_true, Bool.not_true, Bool.not_false, bif_false, bif_true, Option.bind_some, hp.2, decide_true]; rfl
    · have hb := isRnd_at hn.2 hr (a := k) (by omega)
      have x1 := v2 _ (rd_mem (by omega : k < (rw_ vs i).length))
      have x2 := v2 _ (rd_mem (by omega : (rd (rw_ rs i) k).toNat < (rw_ vs i).length))
      unfold areAt at hp
      unfold D_impl_Schedule_areVenues_s1
      rw [bif_dt (by omega)]
      simp (disch := omega) only [chk_inR, Int.toNat_natCast]
      by_cases e : rd (rw_ rs i) k = (k : Int)
      · rw [if_pos e, decide_eq_false_iff_not] at hp
        rw [decide_eq_true e, decide_eq_false (by omega : ¬ rd (rw_ vs i) k < 0)]; rfl
      · rw [if_neg e] at hp
        rw [decide_eq_false e]
        by_cases e1 : rd (rw_ vs i) k < 0
        · rw [decide_eq_true e1]; rfl
        · rw [decide_eq_true (by omega), Bool.true_and, decide_eq_false_iff_not] at hp
          rw [decide_eq_false e1]
          simp (disch := omega) only [chk_in64, beq_self_eq_true, Bool.not_true, Bool.not_false, bif_false, bif_true, Option.bind_some, decide_eq_false hp]
    · unfold D_impl_Schedule_areVenues_s1
      simp (disch := omega) only [bif_df]
  rw [loop_all (fun k => (k : Int)) (fun i => (List.range n.toNat).all (areAt (rw_ rs i) (rw_ vs i))) rs.length (by omega) ?_ ?_ ?_ (s := 0) rfl]
  · split
    · rename_i h; rw [h]; rfl
    · rename_i h; rw [Bool.not_eq_true] at h; rw [h]; rfl
  all_goals first | (intro k hk hp _) | intro _
  all_goals unfold D_impl_Schedule_areVenues_s0
  · rw [bif_dt (by omega), chk_inR (by omega) (by omega), hin k hk, if_pos hp, Option.bind_some]
    simp (disch := omega) only [chk_in64]; rfl
  · rw [bif_dt (by omega), chk_inR (by omega) (by omega), hin k hk, hp]; rfl
  · simp (disch := omega) only [bif_df]
def areVs (n : Int) (rs vs : List (List Int)) : Bool × Int := if isSch n rs then if formV n rs vs then (areV n rs vs, 0) else (false, 2) else (false, 1)
theorem areVs_eqs {fu : Nat} (hf : Big fu) (n : Int) {rs vs : List (List Int)} (hA : All 14 rs) (hl : rs.length ≤ 4294967296) (hs : Small vs) : D_spec_AreVenues fu n rs vs = some (areVs n rs vs) ∧ D_impl_AreVenues fu n rs vs = some (areVs n rs vs) := by
  unfold D_spec_AreVenues D_impl_AreVenues areVs
  rw [l05Form_D hf n hA hl hs, scheduleCode_D hf n hA hl (b := formV n rs vs) (fun _ => by unfold D_impl_AreVenues_1; rw [haveForm_D hf n hs]; rfl), Option.bind_some, Option.bind_some]
  cases h : isSch n rs with
  | false => exact ⟨rfl, rfl⟩
  | true =>
    cases hv : formV n rs vs with
    | false => exact ⟨rfl, rfl⟩
    | true =>
      rw [sAre_D hf h hv, iAre_D hf h hv]
      exact ⟨rfl, rfl⟩
theorem areVs_law {fu : Nat} (hf : Big fu) (n : Int) {rs vs : List (List Int)} (hA : All 14 rs) (hl : rs.length ≤ 9223372036854775807) (hlv : vs.length ≤ 9223372036854775807) (hr : ∀ r ∈ vs, r.length ≤ 9223372036854775807) : D_laws_FnExactAreVenues fu n rs vs = some true := by
  unfold D_laws_FnExactAreVenues
  rw [szSchedule_D (by omega) (by omega) hl, Option.bind_some]
  by_cases h : szv 1048576 rs.length < 0
  · rw [bif_dt h]
  · have hz := szv_pos h
    have hl' : rs.length ≤ 4294967296 := by omega
    rw [bif_df h]
    have hv0 : szv 1048576 rs.length = 1048576 - rs.length := by
      unfold szv at h ⊢
      by_cases h9 : (1048576 : Int) - (rs.length : Int) < 0
      · rw [if_pos h9] at h; exact absurd (by decide) h
      · rw [if_neg h9]
    generalize hl0 : szv 1048576 rs.length = l0 at h hv0
    rw [szInt64SS_D hf (by omega) (by omega) hlv hr, Option.bind_some]
    by_cases h2 : (if szv l0 vs.length < 0 then -1 else szR (szv l0 vs.length) vs) < 0
    · rw [bif_dt h2]
    · rw [bif_df h2]
      have hs : Small vs := by
        split at h2
        · exact absurd (by decide) h2
        · rename_i h3
          have h5 := szv_le (l := l0) (n := vs.length) (by omega)
          have h6 : vs.length ≤ 1048576 := by
            unfold szv at h3
            by_cases h9 : l0 - (vs.length : Int) < 0
            · rw [if_pos h9] at h3; exact absurd (by decide) h3
            · omega
          have h4 := szR_small (rs := vs) (by omega) (by omega) h2
          exact ⟨by omega, fun r hr => by have := h4 r hr; omega⟩
      obtain ⟨e1, e2⟩ := areVs_eqs hf n hA hl' hs
      generalize areVs n rs vs = w at e1 e2
      obtain ⟨b, c⟩ := w
      simp (disch := omega) only [toSchedule_D hf hA hl', toInt64SS_D hf hs, e1, e2, Option.bind_some, eqSchedule_D hf hA hA hl', eqInt64SS_D hf hs, beq_self_eq_true, decide_true, Bool.and_true, Bool.not_true, bif_false, bif_nt, Bool.or_false]
end Go.Proofs.Ytpaaoafgahbokaa

