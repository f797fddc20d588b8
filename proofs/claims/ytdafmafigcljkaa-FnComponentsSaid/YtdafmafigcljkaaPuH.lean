/-
  ReorderRounds, RenumberTeams: what program and reference compute, and the laws. Plain Lean, no program, no condition.
-/
import Derived.Test.YtdafmafigcljkaaDSa
import Derived.Test.YtdafmafigcljkaaPuV
import Derived.Test.YtdafmafigcljkaaPuD
namespace Go.Proofs.Ytdafmafigcljkaa
open Go Am
set_option linter.unusedVariables false
set_option linter.unusedSimpArgs false

/-! orders -/
def isOrd (n : Int) (xs : List Int) : Bool := decide ((xs.length : Int) = n) && (xs.all (fun x => inB x 0 (n - 1)) && decide xs.Nodup)
theorem isOrd_of {n : Int} {xs : List Int} (h : isOrd n xs = true) : (xs.length : Int) = n ∧ (∀ x ∈ xs, 0 ≤ x ∧ x ≤ n - 1) ∧ xs.Nodup := by
  unfold isOrd at h
  simp only [Bool.and_eq_true, decide_eq_true_eq, List.all_eq_true] at h
  exact ⟨h.1, fun x hx => inB_of (h.2.1 x hx), h.2.2⟩
def mkO (n : Int) (met : List Bool) (x : Int) : Option (List Bool) := if inB x 0 (n - 1) && !rdb met x.toNat then some (met.set x.toNat true) else none
theorem mkO_fold {n : Int} : ∀ (xs : List Int) (met : List Bool), met.length = n.toNat → ((xs.foldlM (mkO n) met).isSome = true ↔ (∀ x ∈ xs, inB x 0 (n - 1) = true) ∧ xs.Nodup ∧ ∀ x ∈ xs, rdb met x.toNat = false)
  | [], met, _ => by simp
  | x :: xs, met, hl => by
    rw [List.foldlM_cons]
    unfold mkO
    by_cases hb : inB x 0 (n - 1) = true
    · have h0 := inB_of hb
      by_cases h : rdb met x.toNat = true
      · rw [if_neg (by rw [hb, h]; simp)]
        constructor
        · intro h1; cases h1
        · intro h1; have := h1.2.2 x (List.mem_cons_self ..); rw [h] at this; cases this
      · rw [Bool.not_eq_true] at h
        rw [if_pos (by rw [hb, h]; rfl)]
        show ((xs.foldlM (mkO n) (met.set x.toNat true)).isSome = true ↔ _)
        rw [mkO_fold xs _ (by rw [List.length_set]; exact hl), List.nodup_cons]
        constructor
        · rintro ⟨h1, h2, h3⟩
          refine ⟨?_, ⟨fun hm => ?_, h2⟩, fun y hy => ?_⟩
          · intro y hy
            rcases List.mem_cons.1 hy with rfl | hy
            · exact hb
            · exact h1 y hy
          · have := h3 x hm
            rw [rdb_set (by omega), if_pos rfl] at this; cases this
          · rcases List.mem_cons.1 hy with rfl | hy
            · exact h
            · have := h3 y hy
              rw [rdb_set (by omega)] at this
              split at this
              · cases this
              · exact this
        · rintro ⟨h1, ⟨h2, h3⟩, h4⟩
          refine ⟨fun y hy => h1 y (List.mem_cons_of_mem _ hy), h3, fun y hy => ?_⟩
          have hy0 := inB_of (h1 y (List.mem_cons_of_mem _ hy))
          rw [rdb_set (by omega)]
          by_cases e : x.toNat = y.toNat
          · have : x = y := by omega
            subst this; exact absurd hy h2
          · rw [if_neg e]; exact h4 y (List.mem_cons_of_mem _ hy)
    · rw [if_neg (by intro h; rw [Bool.and_eq_true] at h; exact hb h.1)]
      constructor
      · intro h1; cases h1
      · intro h1; exact absurd (h1.1 x (List.mem_cons_self ..)) hb
theorem rdb_rep (n k : Nat) : rdb (List.replicate n false) k = false := by
  unfold rdb; rw [List.getD_eq_getElem?_getD, List.getElem?_replicate]; split <;> rfl
theorem ord_id {n : Int} {xs : List Int} (h : isOrd n xs = true) : ∀ i, i < xs.length → rd (srt xs) i = (i : Int) := by
  obtain ⟨hl, hb, hd⟩ := isOrd_of h
  have hsl := srt_len xs
  have hsb : ∀ i, i < xs.length → 0 ≤ rd (srt xs) i ∧ rd (srt xs) i ≤ n - 1 := fun i hi => hb _ (srt_mem.1 (rd_mem (by omega)))
  have hlt : ∀ i, i + 1 < xs.length → rd (srt xs) i < rd (srt xs) (i + 1) := fun i hi => by
    have h1 := srt_le (xs := xs) (Nat.lt_succ_self i) hi
    have h2 := nodup_rd.1 ((srt_perm xs).nodup_iff.2 hd) i (i + 1) (Nat.lt_succ_self i) (by omega)
    have h1' : rd (srt xs) i ≤ rd (srt xs) (i + 1) := h1
    omega
  have low : ∀ i, i < xs.length → (i : Int) ≤ rd (srt xs) i := by
    intro i
    induction i with
    | zero => intro hi; have := hsb 0 hi; omega
    | succ i ih => intro hi; have := ih (by omega); have := hlt i hi; omega
  have up : ∀ k i, i + k + 1 = xs.length → rd (srt xs) i + k ≤ n - 1 := by
    intro k
    induction k with
    | zero => intro i hi; have := hsb i (by omega); omega
    | succ k ih => intro i hi; have := ih (i + 1) (by omega); have := hlt i (by omega); omega
  intro i hi
  have h1 := low i hi
  have h2 := up (xs.length - 1 - i) i (by omega)
  omega
/-! ReorderRounds -/
def reordR (rs : List (List Int)) (xs : List Int) : List (List Int) := xs.map fun x => rw_ rs x.toNat
def reord (n : Int) (rs : List (List Int)) (xs : List Int) : Int × List (List Int) × Int := if isSch n rs then if isOrd (rs.length : Int) xs then (n, reordR rs xs, 0) else (0, [], 2) else (0, [], 1)
theorem takeI {l : List Int} {k : Nat} (h : k < l.length) : l.take (k + 1) = l.take k ++ [rd l k] := by
  rw [List.take_add_one, List.getElem?_eq_getElem h]; simp [rd, List.getD_eq_getElem?_getD, List.getElem?_eq_getElem h]
theorem reord_loop {fu : Nat} (hf : Big fu) {rs : List (List Int)} (hr : rs.length ≤ 40) {xs : List Int} (h : isOrd (rs.length : Int) xs = true) : loopF (D_spec_l01Reordered_s0 fu rs xs) fu ([], 0) = some (reordR rs xs) := by
  obtain ⟨hl, hb, hd⟩ := isOrd_of h
  unfold Big at hf
  rw [loop_seq (fun k => ((xs.take k).map (fun x => rw_ rs x.toNat), (k : Int))) xs.length (reordR rs xs) (by omega) ?_ ?_ (s := ([], 0)) (by simp)]
  · intro k hk
    have h1 := hb _ (rd_mem hk)
    have hm : ((xs.take k).map (fun x => rw_ rs x.toNat)).length = k := by simp; omega
    unfold D_spec_l01Reordered_s0
    simp (disch := omega) only [chk_inR, chk_in64, chk_le, bif_dt, Int.toNat_natCast]
    rw [takeI hk, List.map_append]; rfl
  · unfold D_spec_l01Reordered_s0
    simp (disch := omega) only [bif_df]
    rw [List.take_length]; rfl
theorem reord_all {n : Int} {rs : List (List Int)} (hA : All 14 rs) (xs : List Int) : All 14 (reord n rs xs).2.1 ∧ (reord n rs xs).2.1.length ≤ 40 := by
  have h0 : All 14 ([] : List (List Int)) ∧ ([] : List (List Int)).length ≤ 40 := ⟨fun r h => absurd h List.not_mem_nil, Nat.zero_le _⟩
  unfold reord
  split
  · rename_i h
    obtain ⟨hn, h40⟩ := isSch_of h
    split
    · rename_i ho
      obtain ⟨hl, hb, hd⟩ := isOrd_of ho
      refine ⟨?_, ?_⟩
      · intro r hr
        obtain ⟨x, hx, rfl⟩ := List.mem_map.1 hr
        have := hb x hx
        exact hA _ (rw_mem (by omega))
      · show (reordR rs xs).length ≤ 40
        unfold reordR; rw [List.length_map]; omega
    · exact h0
  · exact h0

/-! RenumberTeams -/
def rnS (p r : List Int) (k : Nat) : List Int := (List.range k).foldl (fun acc a => acc.set (rd p a).toNat (rd p (rd r a).toNat)) (List.replicate 14 0)
theorem rnS_succ (p r : List Int) (k : Nat) : rnS p r (k + 1) = (rnS p r k).set (rd p k).toNat (rd p (rd r k).toNat) := by unfold rnS; rw [List.range_succ, List.foldl_append]; rfl
theorem rnS_len (p r : List Int) : ∀ k, (rnS p r k).length = 14
  | 0 => List.length_replicate
  | k + 1 => by rw [rnS_succ, List.length_set]; exact rnS_len p r k
def renR (n : Int) (p r : List Int) : List Int := rnS p r n.toNat
theorem sren_loop {fu : Nat} (hf : Big fu) {n : Int} (hn : 2 ≤ n ∧ n ≤ 14) {p : List Int} {rs : List (List Int)} (hp : isOrd n p = true) (hr : ∀ r ∈ rs, isRnd n r = true) (h40 : rs.length ≤ 40) : loopF (D_spec_l01Renamed_s0 fu n rs p) fu ([], 0) = some (rs.map (renR n p)) := by
  obtain ⟨hl, hb, hd⟩ := isOrd_of hp
  unfold Big at hf
  rw [loop_seq (fun k => ((rs.take k).map (renR n p), (k : Int))) rs.length (rs.map (renR n p)) (by omega) ?_ ?_ (s := ([], 0)) (by simp)]
  · intro i hi
    have hri := hr _ (rw_mem hi)
    have hm : ((rs.take i).map (renR n p)).length = i := by simp; omega
    unfold D_spec_l01Renamed_s0
    dsimp only
    rw [bif_dt (by omega)]
    rw [loop_seq (fun k => (rnS p (rw_ rs i) k, (k : Int))) n.toNat (renR n p (rw_ rs i)) (by omega) ?_ ?_ (s := (List.replicate 14 0, 0)) rfl]
    · simp (disch := omega) only [Option.bind_some, chk_le, chk_in64]
      rw [map_take hi]; rfl
    · intro k hk
      have h1 := isRnd_at hn.2 hri (a := k) (by omega)
      have h2 := hb _ (rd_mem (by omega : k < p.length))
      unfold D_spec_l01Renamed_s1
      simp (disch := omega) only [chk_inR, chk_in64, bif_dt, Int.toNat_natCast]
      rw [rnS_succ]; rfl
    · unfold D_spec_l01Renamed_s1
      simp (disch := omega) only [bif_df]; rfl
  · unfold D_spec_l01Renamed_s0
    simp (disch := omega) only [bif_df]
    rw [List.take_length]
def renT (n : Int) (rs : List (List Int)) (p : List Int) : Int × List (List Int) × Int := if isSch n rs then if isOrd n p then (n, rs.map (renR n p), 0) else (0, [], 2) else (0, [], 1)
theorem renT_all (n : Int) (rs : List (List Int)) (p : List Int) : All 14 (renT n rs p).2.1 ∧ (renT n rs p).2.1.length ≤ 40 := by
  have h0 : All 14 ([] : List (List Int)) ∧ ([] : List (List Int)).length ≤ 40 := ⟨fun r h => absurd h List.not_mem_nil, Nat.zero_le _⟩
  unfold renT
  split
  · rename_i h
    obtain ⟨hn, h40⟩ := isSch_of h
    split
    · refine ⟨?_, ?_⟩
      · intro r hr
        obtain ⟨x, hx, rfl⟩ := List.mem_map.1 hr
        exact rnS_len _ _ _
      · show (rs.map (renR n p)).length ≤ 40
        rw [List.length_map]; exact h40
    · exact h0
  · exact h0
end Go.Proofs.Ytdafmafigcljkaa

