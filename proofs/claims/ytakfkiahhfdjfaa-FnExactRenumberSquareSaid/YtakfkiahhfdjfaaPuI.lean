/-
  RenumberSquare: what program and reference compute, and the law. Plain Lean, no program, no condition.
-/
import Derived.Test.YtakfkiahhfdjfaaDI
import Derived.Test.YtakfkiahhfdjfaaDV
import Derived.Test.YtakfkiahhfdjfaaPuH
import Derived.Test.YtakfkiahhfdjfaaPuW
namespace Go.Proofs.Ytakfkiahhfdjfaa
open Go Am
set_option linter.unusedVariables false
set_option linter.unusedSimpArgs false

def rc (p : List Int) (c : Int) : Int := if 0 ≤ c then cel (rd p (c.tdiv 14).toNat) (rd p (c.tmod 14).toNat) else c
def rsq (p : List Int) (ps : List (List Int)) : List (List Int) := ps.map fun row => row.map (rc p)
def emr (p : List Int) (ps : List (List Int)) (m i j : Nat) : List (List Int) := (List.range m).map fun a => (List.range m).map fun b => if a < i ∨ (a = i ∧ b < j) then rc p (rd (rw_ ps a) b) else -1
theorem emr_len (p : List Int) (ps : List (List Int)) (m i j : Nat) : (emr p ps m i j).length = m := by simp [emr]
theorem emr_rw (p : List Int) (ps : List (List Int)) {m : Nat} (i j : Nat) {a : Nat} (h : a < m) : rw_ (emr p ps m i j) a = (List.range m).map fun b => if a < i ∨ (a = i ∧ b < j) then rc p (rd (rw_ ps a) b) else -1 := rw_map h
theorem emr_SqS (p : List Int) (ps : List (List Int)) (m i j : Nat) : SqS m (emr p ps m i j) := ⟨emr_len .., fun k hk => by rw [emr_rw _ _ _ _ hk]; simp⟩
theorem emr_next (p : List Int) (ps : List (List Int)) (m i : Nat) : emr p ps m i m = emr p ps m (i + 1) 0 := by
  unfold emr
  apply List.map_congr_left
  intro a ha
  apply List.map_congr_left
  intro b hb
  have hb' := List.mem_range.1 hb
  have : (a < i ∨ (a = i ∧ b < m)) = (a < i + 1 ∨ (a = i + 1 ∧ b < 0)) := propext (by omega)
  simp only [this]
theorem emr_set {p : List Int} {ps : List (List Int)} {m i j : Nat} (hi : i < m) (hj : j < m) : (emr p ps m i j).set i ((rw_ (emr p ps m i j) i).set j (rc p (rd (rw_ ps i) j))) = emr p ps m i (j + 1) := by
  apply rows_ext
  · rw [List.length_set, emr_len, emr_len]
  · intro a ha
    rw [List.length_set, emr_len] at ha
    rw [rw_set' (by rw [emr_len]; exact hi)]
    by_cases e : i = a
    · subst e
      rw [if_pos rfl, emr_rw _ _ _ _ hi, emr_rw _ _ _ _ hi]
      apply ints_ext
      · simp
      · intro b hb
        simp only [List.length_set, List.length_map, List.length_range] at hb
        rw [rd_set (by simpa using hj), rd_map hb, rd_map hb]
        by_cases eb : j = b
        · subst eb; rw [if_pos rfl, if_pos (by omega)]
        · rw [if_neg eb]
          by_cases hb2 : b < j
          · rw [if_pos (by omega), if_pos (by omega)]
          · rw [if_neg (by omega), if_neg (by omega)]
    · rw [if_neg e, emr_rw _ _ _ _ ha, emr_rw _ _ _ _ ha]
      apply List.map_congr_left
      intro b hb
      have : (a < i ∨ (a = i ∧ b < j)) = (a < i ∨ (a = i ∧ b < j + 1)) := propext (by omega)
      simp only [this]
theorem emr_skip {p : List Int} {ps : List (List Int)} {m i j : Nat} (h : rc p (rd (rw_ ps i) j) = -1) : emr p ps m i j = emr p ps m i (j + 1) := by
  unfold emr
  apply List.map_congr_left
  intro a ha
  apply List.map_congr_left
  intro b hb
  by_cases e : a = i ∧ b = j
  · obtain ⟨rfl, rfl⟩ := e
    rw [if_neg (by omega), if_pos (by omega), h]
  · have : (a < i ∨ (a = i ∧ b < j)) = (a < i ∨ (a = i ∧ b < j + 1)) := propext (by omega)
    simp only [this]
theorem emr_zero (p : List Int) (ps : List (List Int)) (m : Nat) : List.replicate m (List.replicate m (-1)) = emr p ps m 0 0 := by
  unfold emr
  apply rows_ext
  · simp
  · intro a ha
    rw [List.length_replicate] at ha
    rw [rw_map ha]
    have : rw_ (List.replicate m (List.replicate m (-1 : Int))) a = List.replicate m (-1) := by simp [rw_, List.getD_eq_getElem?_getD, List.getElem?_replicate, ha]
    rw [this]
    apply ints_ext
    · simp
    · intro b hb
      rw [List.length_replicate] at hb
      rw [rd_map hb, if_neg (by omega)]
      simp [rd, List.getD_eq_getElem?_getD, List.getElem?_replicate, hb]
theorem emr_full {p : List Int} {ps : List (List Int)} {m : Nat} (hl : ps.length = m) (hr : ∀ r ∈ ps, r.length = m) : emr p ps m m 0 = rsq p ps := by
  apply rows_ext
  · rw [emr_len]; unfold rsq; rw [List.length_map, hl]
  · intro a ha
    rw [emr_len] at ha
    have h1 := hr _ (rw_mem (by omega : a < ps.length))
    have h2 : rw_ (rsq p ps) a = (rw_ ps a).map (rc p) := by
      unfold rsq rw_
      rw [List.getD_eq_getElem?_getD, List.getD_eq_getElem?_getD, List.getElem?_map, List.getElem?_eq_getElem (by omega : a < ps.length)]; rfl
    rw [emr_rw _ _ _ _ ha, h2]
    apply ints_ext
    · simp [h1]
    · intro b hb
      have hb' : b < m := by simpa using hb
      rw [rd_map hb', if_pos (Or.inl ha)]
      unfold rd
      rw [List.getD_eq_getElem?_getD, List.getD_eq_getElem?_getD, List.getElem?_map, List.getElem?_eq_getElem (by omega : b < (rw_ ps a).length)]; rfl
theorem mapI_take {f : Int → Int} {l : List Int} {k : Nat} (h : k < l.length) : (l.take k).map f ++ [f (rd l k)] = (l.take (k + 1)).map f := by rw [takeI h, List.map_append]; rfl
theorem p_in {n : Int} {p : List Int} (hn : 1 ≤ n ∧ n ≤ 13) (hp : isOrd (n + 1) p = true) {c : Int} (hc : isC n c = true) (h0 : 0 ≤ c) : ((c.tdiv 14).toNat < p.length ∧ (c.tmod 14).toNat < p.length) ∧ (0 ≤ rd p (c.tdiv 14).toNat ∧ rd p (c.tdiv 14).toNat ≤ 13) ∧ (0 ≤ rd p (c.tmod 14).toNat ∧ rd p (c.tmod 14).toNat ≤ 13) := by
  obtain ⟨hl, hb, _⟩ := isOrd_of hp
  obtain ⟨a, b, _, _⟩ := isC_of hn hc h0
  have h1 : (c.tdiv 14).toNat < p.length := by omega
  have h2 : (c.tmod 14).toNat < p.length := by omega
  have h3 := hb _ (rd_mem h1)
  have h4 := hb _ (rd_mem h2)
  exact ⟨⟨h1, h2⟩, ⟨h3.1, by omega⟩, h4.1, by omega⟩
theorem isC_neg {n c : Int} (h : isC n c = true) (h0 : ¬ 0 ≤ c) : c = -1 := by
  unfold isC at h
  rw [decide_eq_false h0, Bool.false_and, Bool.false_and, Bool.or_false, decide_eq_true_eq] at h
  exact h
theorem sRen_loop {fu : Nat} (hf : Big fu) {n : Int} {p : List Int} {ps : List (List Int)} (hsq : isSq n ps = true) (hp : isOrd (n + 1) p = true) : loopF (D_spec_RenumberSquare_s0 fu ps p) fu ([], 0) = some (rsq p ps) := by
  obtain ⟨hn, hl, hr, hc⟩ := isSq_of hsq
  unfold Big at hf
  rw [loop_seq (fun k => ((ps.take k).map (fun row => row.map (rc p)), (k : Int))) ps.length (rsq p ps) (by omega) ?_ ?_ (s := ([], 0)) (by simp)]
  · intro i hi
    have hri := hr _ (rw_mem hi)
    have hm : ((ps.take i).map (fun row => row.map (rc p))).length = i := by simp; omega
    unfold D_spec_RenumberSquare_s0
    dsimp only
    rw [bif_dt (by omega)]
    rw [loop_seq (fun k => (((rw_ ps i).take k).map (rc p), (k : Int))) (rw_ ps i).length ((rw_ ps i).map (rc p)) (by omega) ?_ ?_ (s := ([], 0)) (by simp)]
    · simp (disch := omega) only [Option.bind_some, chk_le, chk_in64]
      rw [map_take (f := fun row => row.map (rc p)) hi]; rfl
    · intro j hj
      have hcc := hc _ (rw_mem hi) _ (rd_mem hj)
      have hm2 : (((rw_ ps i).take j).map (rc p)).length = j := by simp; omega
      unfold D_spec_RenumberSquare_s1
      dsimp only
      rw [Int.toNat_natCast, Int.toNat_natCast, chk_inR (by omega) (by omega), bif_dt (by omega), chk_inR (by omega) (by omega), chk_inR (by omega) (by omega), ← mapI_take hj]
      by_cases h0 : 0 ≤ rd (rw_ ps i) j
      · obtain ⟨⟨g1, g2⟩, g3, g4⟩ := p_in hn hp hcc h0
        obtain ⟨c1, c2, _, c4⟩ := isC_of hn hcc h0
        obtain ⟨g5, g6⟩ := cel_in g3 g4
        have e : rc p (rd (rw_ ps i) j) = cel (rd p ((rd (rw_ ps i) j).tdiv 14).toNat) (rd p ((rd (rw_ ps i) j).tmod 14).toNat) := by unfold rc; rw [if_pos h0]
        rw [bif_dt h0, chk_div h0 (by omega), chk_inR (by omega) (by omega), chk_inR (by omega) (by omega), e]
        unfold cel at *
        rw [chk_in64 (by omega) (by omega), chk_in64 (by omega) (by omega), Option.bind_some, chk_le (by omega), chk_in64 (by omega) (by omega)]; rfl
      · have e : rc p (rd (rw_ ps i) j) = rd (rw_ ps i) j := by unfold rc; rw [if_neg h0]
        rw [bif_df h0, e, Option.bind_some, chk_le (by omega), chk_in64 (by omega) (by omega)]; rfl
    · unfold D_spec_RenumberSquare_s1
      dsimp only
      rw [Int.toNat_natCast, chk_inR (by omega) (by omega), bif_df (by omega), List.take_length]
  · unfold D_spec_RenumberSquare_s0
    simp (disch := omega) only [bif_df]
    rw [List.take_length]; rfl
theorem iRen_loop {fu : Nat} (hf : Big fu) {n : Int} {p : List Int} {ps : List (List Int)} (hsq : isSq n ps = true) (hp : isOrd (n + 1) p = true) (x : Int) : loopF (D_impl_RenumberSquare_s0 fu ps p x) fu (List.replicate n.toNat (List.replicate n.toNat (-1)), 0) = some (rsq p ps) := by
  obtain ⟨hn, hl, hr, hc⟩ := isSq_of hsq
  unfold Big at hf
  rw [loop_seq (fun k => (emr p ps n.toNat k 0, (k : Int))) n.toNat (rsq p ps) (by omega) ?_ ?_ (s := (List.replicate n.toNat (List.replicate n.toNat (-1)), 0)) (by rw [emr_zero p ps]; rfl)]
  · intro i hi
    have hri := hr _ (rw_mem (by omega : i < ps.length))
    unfold D_impl_RenumberSquare_s0
    dsimp only
    rw [bif_dt (by omega), chk_inR (by omega) (by omega)]
    rw [loop_seq (fun k => (emr p ps n.toNat i k, (k : Int))) n.toNat (emr p ps n.toNat (i + 1) 0) (by omega) ?_ ?_ (s := (emr p ps n.toNat i 0, 0)) rfl]
    · simp (disch := omega) only [Option.bind_some, chk_in64]; rfl
    · intro j hj
      have hcc := hc _ (rw_mem (by omega : i < ps.length)) _ (rd_mem (by omega : j < (rw_ ps i).length))
      unfold D_impl_RenumberSquare_s1
      dsimp only
      rw [Int.toNat_natCast, Int.toNat_natCast, bif_dt (by omega), chk_inR (by omega) (by omega)]
      by_cases h0 : 0 ≤ rd (rw_ ps i) j
      · obtain ⟨⟨g1, g2⟩, g3, g4⟩ := p_in hn hp hcc h0
        obtain ⟨c1, c2, _, c4⟩ := isC_of hn hcc h0
        have e : rc p (rd (rw_ ps i) j) = cel (rd p ((rd (rw_ ps i) j).tdiv 14).toNat) (rd p ((rd (rw_ ps i) j).tmod 14).toNat) := by unfold rc; rw [if_pos h0]
        rw [bif_dt h0, chk_div h0 (by omega), chk_inR (by omega) (by omega), chk_inR (by omega) (by omega), put2_D (k := n.toNat) (by omega) (emr_SqS _ _ _ _ _) hi hj g3 g4, Option.bind_some, chk_in64 (by omega) (by omega), ← e, emr_set hi hj]; rfl
      · have e : rc p (rd (rw_ ps i) j) = -1 := by unfold rc; rw [if_neg h0]; exact isC_neg hcc h0
        rw [bif_df h0, chk_in64 (by omega) (by omega), emr_skip e]; rfl
    · unfold D_impl_RenumberSquare_s1
      dsimp only
      rw [Int.toNat_natCast, bif_df (by omega), emr_next]
  · unfold D_impl_RenumberSquare_s0
    dsimp only
    rw [bif_df (by omega), emr_full (by omega) (fun r h => by have := hr r h; omega)]
def renSq (n : Int) (ps : List (List Int)) (p : List Int) : Int × List (List Int) × Int := if isSq n ps then if isOrd (n + 1) p then (n, rsq p ps, 0) else (0, [], 2) else (0, [], 1)
theorem renSq_eqs {fu : Nat} (hf : Big fu) (n : Int) {ps : List (List Int)} (hs : Small ps) (h64 : R64 ps) {p : List Int} (hx : p.length ≤ 4294967296) : D_spec_RenumberSquare fu n ps p = some (renSq n ps p) ∧ D_impl_RenumberSquare fu n ps p = some (renSq n ps p) := by
  unfold D_spec_RenumberSquare D_impl_RenumberSquare renSq
  rw [l04Is_D hf n hs, IsSquare_D hf n hs h64, Option.bind_some, Option.bind_some]
  cases h : isSq n ps with
  | false => exact ⟨rfl, rfl⟩
  | true =>
    obtain ⟨hn, hl, hr, hc⟩ := isSq_of h
    simp only [Bool.not_true, bif_false, if_true]
    rw [chk_in64 (by omega) (by omega), chk_in64 (by omega) (by omega), l01Order_D hf ⟨by omega, by omega⟩ hx, isOrder_D hf hx, Option.bind_some, Option.bind_some]
    cases ho : isOrd (n + 1) p with
    | false => exact ⟨rfl, rfl⟩
    | true =>
      rw [sRen_loop hf h ho, emptySquare_D hf ⟨by omega, by omega⟩]
      refine ⟨rfl, ?_⟩
      simp only [Bool.not_true, bif_false, if_true, Option.bind_some, iRen_loop hf h ho]
theorem renSq_small (n : Int) (ps : List (List Int)) (p : List Int) : Small (renSq n ps p).2.1 ∧ totR (renSq n ps p).2.1 ≤ 1000 := by
  have h0 : Small ([] : List (List Int)) ∧ totR ([] : List (List Int)) ≤ 1000 := ⟨⟨Nat.zero_le _, fun r h => absurd h List.not_mem_nil⟩, Nat.zero_le _⟩
  unfold renSq
  split
  · rename_i h
    obtain ⟨hn, hl, hr, hc⟩ := isSq_of h
    split
    · have h1 : ∀ r ∈ rsq p ps, r.length ≤ 14 := by
        intro r hr'
        obtain ⟨q, hq, rfl⟩ := List.mem_map.1 hr'
        have := hr q hq
        rw [List.length_map]; omega
      have h4 := tot_le h1
      have h5 : (rsq p ps).length = ps.length := List.length_map ..
      refine ⟨⟨?_, fun r hr => ?_⟩, ?_⟩
      · show (rsq p ps).length ≤ _; omega
      · have := h1 r hr; omega
      · show totR (rsq p ps) ≤ 1000; omega
    · exact h0
  · exact h0
theorem renSq_law {fu : Nat} (hf : Big fu) (n : Int) {ps : List (List Int)} (hl : ps.length ≤ 9223372036854775807) (hr : ∀ r ∈ ps, r.length ≤ 9223372036854775807 ∧ all64 r) (p : List Int) : D_laws_FnExactRenumberSquare fu n ps p = some true := by
  unfold D_laws_FnExactRenumberSquare
  by_cases h0 : (1048576 : Int) < ((p.length : Nat) : Int)
  · rw [bif_dt h0]
  · rw [bif_df h0, szSquare_D hf (by omega) (by omega) hl (fun r h => (hr r h).1), Option.bind_some]
    by_cases h : (if szv 1048576 ps.length < 0 then -1 else szR (szv 1048576 ps.length) ps) < 0
    · rw [if_pos h, bif_dt (by decide)]
    · obtain ⟨h1, h2⟩ := sz_small h
      have h3 := sz_tot h
      have hs : Small ps := ⟨by omega, fun r hr => by have := h2 r hr; omega⟩
      have h64 : R64 ps := fun r h => (hr r h).2
      have hx : p.length ≤ 4294967296 := by omega
      rw [if_neg h, bif_df h]
      obtain ⟨e1, e2⟩ := renSq_eqs hf n hs h64 hx
      obtain ⟨w1, w2⟩ := renSq_small n ps p
      generalize renSq n ps p = w at e1 e2 w1 w2
      obtain ⟨m, ws, c⟩ := w
      have m1 := markSquare_D hf (n := n) (k := 1) hs (by omega) (by omega)
      have m1' := markInt64S_D hf (a := p) (k := 1 + totR ps) (by omega) (by omega) (by omega)
      have m2 := markSquare_D hf (n := m) (k := 1) w1 (by omega) (by omega)
      have m3 := heldSquare_D hf (n := m) (k := 1) w1 (by omega) (by omega)
      simp (disch := omega) only [toSquare_D hf hs, toInt64S_D hf hx, e1, e2, Option.bind_some, eqSquare_D hf w1, eqSquare_D hf hs, eqInt64S_D hf hx, decide_true, Bool.and_true, Bool.not_true, bif_false, m1, m1', m2, m3, bif_df, bif_nt]
end Go.Proofs.Ytakfkiahhfdjfaa

