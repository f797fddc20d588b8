
/-
  RowsOf, ColumnsOf: what program and reference compute, and the laws. Plain Lean, no program, no condition.
-/
import Derived.Test.YtpaaoafgahbokaaPuT
namespace Go.Proofs.Ytpaaoafgahbokaa
open Go Am
set_option linter.unusedVariables false
set_option linter.unusedSimpArgs false

def stP (r p : List Int) : Option (List Int) := if rd r (rd p 0).toNat = rd p 0 ∧ rd r (rd p 1).toNat = rd p 1 then some (meet1 r p) else none
def stC (r : List Int) (c : Int) : Option (List Int) := if 0 ≤ c then stP r [c.tdiv 14, c.tmod 14] else some r
def cp (row : List Int) : List (List Int) := (row.filter fun c => decide (0 ≤ c)).map fun c => [c.tdiv 14, c.tmod 14]
theorem cp_cons (c : Int) (row : List Int) : cp (c :: row) = if 0 ≤ c then [c.tdiv 14, c.tmod 14] :: cp row else cp row := by
  unfold cp
  by_cases h : 0 ≤ c
  · rw [if_pos h, List.filter_cons_of_pos (by simpa using h)]; rfl
  · rw [if_neg h, List.filter_cons_of_neg (by simpa using h)]
theorem cp_app (a b : List Int) : cp (a ++ b) = cp a ++ cp b := by unfold cp; rw [List.filter_append, List.map_append]
theorem cp_len (row : List Int) : (cp row).length ≤ row.length := by unfold cp; rw [List.length_map]; exact List.length_filter_le _ _
theorem cp_fold : ∀ (row r : List Int), (cp row).foldlM stP r = row.foldlM stC r
  | [], r => rfl
  | c :: row, r => by
    rw [cp_cons, List.foldlM_cons]
    unfold stC
    by_cases h : 0 ≤ c
    · rw [if_pos h, if_pos h, List.foldlM_cons]
      show Option.bind _ _ = Option.bind _ _
      congr 1; funext s; exact cp_fold row s
    · rw [if_neg h, if_neg h]; exact cp_fold row r
theorem take_rd {l : List Int} {k : Nat} (h : k < l.length) : l.take (k + 1) = l.take k ++ [rd l k] := by
  rw [List.take_add_one, List.getElem?_eq_getElem h]; simp [rd, List.getD_eq_getElem?_getD, List.getElem?_eq_getElem h]
theorem cp_take {row : List Int} {k : Nat} (h : k < row.length) : cp (row.take (k + 1)) = if 0 ≤ rd row k then cp (row.take k) ++ [[(rd row k).tdiv 14, (rd row k).tmod 14]] else cp (row.take k) := by
  rw [take_rd h, cp_app, cp_cons]
  split
  · rfl
  · exact List.append_nil _
theorem cp_ok {n : Int} (hn : 1 ≤ n ∧ n ≤ 13) {row : List Int} (hc : ∀ c ∈ row, isC n c = true) : ∀ p ∈ cp row, okP (n + 1) p = true := by
  intro p hp
  obtain ⟨c, hcm, rfl⟩ := List.mem_map.1 hp
  obtain ⟨h1, h2⟩ := List.mem_filter.1 hcm
  obtain ⟨a, b, d, _⟩ := isC_of hn (hc c h1) (by simpa using h2)
  unfold okP
  have e0 : rd [c.tdiv 14, c.tmod 14] 0 = c.tdiv 14 := rfl
  have e1 : rd [c.tdiv 14, c.tmod 14] 1 = c.tmod 14 := rfl
  have e2 : ¬ c.tdiv 14 = c.tmod 14 := by omega
  rw [e0, e1, inB_t ⟨a.1, by omega⟩, inB_t ⟨b.1, by omega⟩, decide_eq_false e2]; rfl
theorem iRoundOf2_D {fu : Nat} (hf : Big fu) {n : Int} (hn : 2 ≤ n ∧ n ≤ 14) {ps : List (List Int)} (h14 : ps.length ≤ 14) (hok : ∀ p ∈ ps, okP n p = true) :
    D_impl_RoundOf fu n ps = some ((ps.foldlM stP (frI n.toNat)).elim (List.replicate 14 0, 5) fun r => (r, 0)) := by
  have hf' := hf
  unfold Big at hf
  unfold D_impl_RoundOf
  rw [between_D, Option.bind_some, inB_t hn, Bool.not_true, bif_false, bif_df (by omega), ContainsFuncT_D hf' (by omega) (p := fun p => !okP n p) (fun r _ => RoundOf1_D hn r)]
  have : ps.any (fun p => !okP n p) = false := by
    rw [List.any_eq_false]; intro p hp; rw [hok p hp]; simp
  simp only [Option.bind_some, this, bif_false]
  rw [free_D hf' (by omega), Option.bind_some]
  rw [loop_optF (fun k r => stP r (rw_ ps k)) (fun _ r => r.length = 14) ps.length (fun r => .inl r) (.inr (List.replicate 14 0, 5)) (by omega) (frI_len _) ?_ ?_ ?_, optF_listR]
  · cases ps.foldlM stP (frI n.toNat) <;> rfl
  · intro k r s' hk hP hg
    obtain ⟨o0, o1, o2, o3⟩ := okP_of (hok _ (rw_mem hk))
    unfold stP at hg
    split at hg
    · rename_i hR
      obtain rfl := Option.some.inj hg
      refine ⟨?_, by rw [meet1_len]; exact hP⟩
      unfold D_impl_RoundOf_s0
      simp (disch := omega) only [bif_dt, bif_nt, chk_inR, chk_in64, Int.toNat_natCast, hR.1, hR.2, decide_true, Bool.not_true, Option.bind_some, bif_false, meet_D]
      rfl
    · cases hg
  · intro k r hk hP hg
    obtain ⟨o0, o1, o2, o3⟩ := okP_of (hok _ (rw_mem hk))
    unfold stP at hg
    split at hg
    · cases hg
    · rename_i hR
      unfold D_impl_RoundOf_s0
      by_cases z0 : rd r (rd (rw_ ps k) 0).toNat = rd (rw_ ps k) 0
      · have z1 : ¬ rd r (rd (rw_ ps k) 1).toNat = rd (rw_ ps k) 1 := fun e => hR ⟨z0, e⟩
        simp (disch := omega) only [bif_dt, bif_nt, chk_inR, chk_in64, Int.toNat_natCast, z0, decide_eq_false z1, decide_true, Bool.not_true, Bool.not_false, Option.bind_some, bif_true, bif_false]
      · simp (disch := omega) only [bif_dt, bif_nf, chk_inR, chk_in64, Int.toNat_natCast, Option.bind_some, bif_true]
  · intro r hP
    unfold D_impl_RoundOf_s0
    simp (disch := omega) only [bif_df]
def rowG (n : Int) (rs : List (List Int)) (row : List Int) : Option (List (List Int)) := (row.foldlM stC (frI (n + 1).toNat)).map fun r => rs ++ [r]
def rowsF (n : Int) (ps : List (List Int)) : Option (List (List Int)) := ps.foldlM (rowG n) []
theorem iCells_D {fu : Nat} (hf : Big fu) {n : Int} (hn : 1 ≤ n ∧ n ≤ 13) {ps : List (List Int)} {i : Nat} (hi : i < ps.length) (hl : ((rw_ ps i).length : Int) = n) (hc : ∀ c ∈ rw_ ps i, isC n c = true) :
    loopF (D_impl_Square_rows_s1 fu ps (i : Int)) fu ([], 0) = some (cp (rw_ ps i)) := by
  unfold Big at hf
  rw [loop_seq (fun k => (cp ((rw_ ps i).take k), (k : Int))) (rw_ ps i).length (cp (rw_ ps i)) (by omega) ?_ ?_ (s := ([], 0)) rfl]
  · intro k hk
    have h1 := cp_len ((rw_ ps i).take k)
    rw [List.length_take] at h1
    have hcc := hc _ (rd_mem hk)
    unfold D_impl_Square_rows_s1
    rw [cp_take hk]
    dsimp only
    rw [Int.toNat_natCast, bif_dt (by omega), chk_inR (by omega) (by omega), Int.toNat_natCast]
    by_cases h : 0 ≤ rd (rw_ ps i) k
    · have h2 := isC_of hn hcc h
      rw [bif_dt h, if_pos h, chk_div h (by omega), chk_le (by omega), chk_in64 (by omega) (by omega)]; rfl
    · rw [bif_df h, if_neg h, chk_in64 (by omega) (by omega)]; rfl
  · unfold D_impl_Square_rows_s1
    simp (disch := omega) only [Int.toNat_natCast, bif_df, List.take_length]
theorem iRows_D {fu : Nat} (hf : Big fu) {n : Int} (hn : 1 ≤ n ∧ n ≤ 13) {ps : List (List Int)} (hl : (ps.length : Int) = n) (hr : ∀ r ∈ ps, (r.length : Int) = n) (hc : ∀ r ∈ ps, ∀ c ∈ r, isC n c = true) :
    D_impl_Square_rows fu n ps = some ((rowsF n ps).elim (0, [], 5) fun rs => (n + 1, rs, 0)) := by
  have hf' := hf
  unfold Big at hf
  unfold D_impl_Square_rows
  rw [chk_in64 (by omega) (by omega)]
  rw [loop_optF (fun k rs => rowG n rs (rw_ ps k)) (fun k rs => rs.length = k) ps.length (fun r => .inl r) (.inr (0, [], 5)) (by omega) rfl ?_ ?_ ?_, optF_listR]
  · unfold rowsF; cases ps.foldlM (rowG n) [] <;> rfl
  · intro k rs s' hk hP hg
    have hk' := rw_mem hk
    have h1 := hr _ hk'
    have h2 := cp_len (rw_ ps k)
    unfold rowG at hg
    rw [Option.map_eq_some_iff] at hg
    obtain ⟨r, hg, rfl⟩ := hg
    refine ⟨?_, by rw [List.length_append, hP]; rfl⟩
    unfold D_impl_Square_rows_s0
    dsimp only
    rw [bif_dt (by omega), chk_inR (by omega) (by omega), iCells_D hf' hn hk h1 (hc _ hk'), Option.bind_some, iRoundOf2_D hf' ⟨by omega, by omega⟩ (by omega) (cp_ok hn (hc _ hk')), cp_fold, hg]
    simp (disch := omega) only [Option.elim, Option.bind_some, bif_nt, chk_le, chk_in64, decide_true, Bool.not_true, bif_false]
  · intro k rs hk hP hg
    have hk' := rw_mem hk
    have h1 := hr _ hk'
    have h2 := cp_len (rw_ ps k)
    unfold rowG at hg
    rw [Option.map_eq_none_iff] at hg
    unfold D_impl_Square_rows_s0
    dsimp only
    rw [bif_dt (by omega), chk_inR (by omega) (by omega), iCells_D hf' hn hk h1 (hc _ hk'), Option.bind_some, iRoundOf2_D hf' ⟨by omega, by omega⟩ (by omega) (cp_ok hn (hc _ hk')), cp_fold, hg]
    rfl
  · intro rs hP
    unfold D_impl_Square_rows_s0
    simp (disch := omega) only [bif_df]
theorem sCells_D {fu : Nat} (hf : Big fu) {n : Int} (hn : 1 ≤ n ∧ n ≤ 13) {ps : List (List Int)} {i : Nat} (hi : i < ps.length) (hl : ((rw_ ps i).length : Int) = n) (hc : ∀ c ∈ rw_ ps i, isC n c = true) (r : List Int) :
    loopF (D_spec_l04Rows_s1 fu ps (i : Int)) fu (r, 0) = some (((rw_ ps i).foldlM stC r).elim (.inr (0, [], false)) fun r => .inl r) := by
  unfold Big at hf
  rw [loop_optF (fun k r => stC r (rd (rw_ ps i) k)) (fun _ _ => True) (rw_ ps i).length (fun r => .inl r) (.inr (0, [], false)) (by omega) trivial ?_ ?_ ?_, optF_list]
  · intro k r s' hk _ hg
    have hcc := hc _ (rd_mem hk)
    refine ⟨?_, trivial⟩
    unfold D_spec_l04Rows_s1
    dsimp only
    rw [Int.toNat_natCast, chk_inR (by omega) (by omega), bif_dt (by omega), chk_inR (by omega) (by omega), chk_inR (by omega) (by omega), Int.toNat_natCast]
    unfold stC at hg
    by_cases h : 0 ≤ rd (rw_ ps i) k
    · have h2 := isC_of hn hcc h
      rw [if_pos h] at hg
      rw [bif_dt h, chk_div h (by omega)]
      unfold stP at hg
      split at hg
      · rename_i hR
        obtain rfl := Option.some.inj hg
        have e0 : rd [(rd (rw_ ps i) k).tdiv 14, (rd (rw_ ps i) k).tmod 14] 0 = (rd (rw_ ps i) k).tdiv 14 := rfl
        have e1 : rd [(rd (rw_ ps i) k).tdiv 14, (rd (rw_ ps i) k).tmod 14] 1 = (rd (rw_ ps i) k).tmod 14 := rfl
        rw [e0, e1] at hR
        simp (disch := omega) only [chk_inR, chk_in64, hR.1, hR.2, decide_true, Bool.not_true, Option.bind_some, bif_false]
        rfl
      · cases hg
    · rw [if_neg h] at hg
      obtain rfl := Option.some.inj hg
      rw [bif_df h, chk_in64 (by omega) (by omega)]
  · intro k r hk _ hg
    have hcc := hc _ (rd_mem hk)
    unfold D_spec_l04Rows_s1
    dsimp only
    rw [Int.toNat_natCast, chk_inR (by omega) (by omega), bif_dt (by omega), chk_inR (by omega) (by omega), chk_inR (by omega) (by omega), Int.toNat_natCast]
    unfold stC at hg
    by_cases h : 0 ≤ rd (rw_ ps i) k
    · have h2 := isC_of hn hcc h
      rw [if_pos h] at hg
      rw [bif_dt h, chk_div h (by omega)]
      unfold stP at hg
      split at hg
      · cases hg
      · rename_i hR
        have e0 : rd [(rd (rw_ ps i) k).tdiv 14, (rd (rw_ ps i) k).tmod 14] 0 = (rd (rw_ ps i) k).tdiv 14 := rfl
        have e1 : rd [(rd (rw_ ps i) k).tdiv 14, (rd (rw_ ps i) k).tmod 14] 1 = (rd (rw_ ps i) k).tmod 14 := rfl
        rw [e0, e1] at hR
        by_cases z0 : rd r ((rd (rw_ ps i) k).tdiv 14).toNat = (rd (rw_ ps i) k).tdiv 14
        · have z1 : ¬ rd r ((rd (rw_ ps i) k).tmod 14).toNat = (rd (rw_ ps i) k).tmod 14 := fun e => hR ⟨z0, e⟩
          simp (disch := omega) only [chk_inR, chk_in64, z0, decide_eq_false z1, decide_true, Bool.not_true, Bool.not_false, Option.bind_some, bif_false, bif_true]
        · simp (disch := omega) only [chk_inR, chk_in64, decide_eq_false z0, Bool.not_false, Option.bind_some, bif_true]
    · rw [if_neg h] at hg; cases hg
  · intro r _
    unfold D_spec_l04Rows_s1
    dsimp only
    rw [Int.toNat_natCast, chk_inR (by omega) (by omega), bif_df (by omega)]
theorem sRows_D {fu : Nat} (hf : Big fu) {n : Int} (hn : 1 ≤ n ∧ n ≤ 13) {ps : List (List Int)} (hl : (ps.length : Int) = n) (hr : ∀ r ∈ ps, (r.length : Int) = n) (hc : ∀ r ∈ ps, ∀ c ∈ r, isC n c = true) :
    D_spec_l04Rows fu n ps = some ((rowsF n ps).elim (0, [], false) fun rs => (n + 1, rs, true)) := by
  have hf' := hf
  unfold Big at hf
  unfold D_spec_l04Rows
  rw [chk_in64 (by omega) (by omega)]
  rw [loop_optF (fun k rs => rowG n rs (rw_ ps k)) (fun k rs => rs.length = k) ps.length (fun r => .inl r) (.inr (0, [], false)) (by omega) rfl ?_ ?_ ?_, optF_listR]
  · unfold rowsF; cases ps.foldlM (rowG n) [] <;> rfl
  · intro k rs s' hk hP hg
    have hk' := rw_mem hk
    have h1 := hr _ hk'
    unfold rowG at hg
    rw [Option.map_eq_some_iff] at hg
    obtain ⟨r, hg, rfl⟩ := hg
    refine ⟨?_, by rw [List.length_append, hP]; rfl⟩
    unfold D_spec_l04Rows_s0
    dsimp only
    rw [bif_dt (by omega), chk_in64 (by omega) (by omega), l01Free_D hf' ⟨by omega, by omega⟩, Option.bind_some, sCells_D hf' hn hk h1 (hc _ hk'), hg]
    simp (disch := omega) only [Option.elim, Option.bind_some, chk_le, chk_in64]
  · intro k rs hk hP hg
    have hk' := rw_mem hk
    have h1 := hr _ hk'
    unfold rowG at hg
    rw [Option.map_eq_none_iff] at hg
    unfold D_spec_l04Rows_s0
    dsimp only
    rw [bif_dt (by omega), chk_in64 (by omega) (by omega), l01Free_D hf' ⟨by omega, by omega⟩, Option.bind_some, sCells_D hf' hn hk h1 (hc _ hk'), hg]
    rfl
  · intro rs hP
    unfold D_spec_l04Rows_s0
    simp (disch := omega) only [bif_df]
def rowsOf (n : Int) (ps : List (List Int)) : Int × List (List Int) × Int := if isSq n ps then (rowsF n ps).elim (0, [], 5) (fun rs => (n + 1, rs, 0)) else (0, [], 1)
def colsOf (n : Int) (ps : List (List Int)) : Int × List (List Int) × Int := if isSq n ps then (rowsF n (tr n.toNat ps)).elim (0, [], 5) (fun rs => (n + 1, rs, 0)) else (0, [], 1)
theorem rowsOf_eqs {fu : Nat} (hf : Big fu) (n : Int) {ps : List (List Int)} (hs : Small ps) (h64 : R64 ps) : D_spec_RowsOf fu n ps = some (rowsOf n ps) ∧ D_impl_RowsOf fu n ps = some (rowsOf n ps) := by
  unfold D_spec_RowsOf D_impl_RowsOf rowsOf
  rw [l04Is_D hf n hs, IsSquare_D hf n hs h64, Option.bind_some, Option.bind_some]
  cases h : isSq n ps with
  | false => exact ⟨rfl, rfl⟩
  | true =>
    obtain ⟨hn, hl, hr, hc⟩ := isSq_of h
    rw [sRows_D hf hn hl hr hc, iRows_D hf hn hl hr hc]
    cases rowsF n ps <;> exact ⟨rfl, rfl⟩
theorem colsOf_eqs {fu : Nat} (hf : Big fu) (n : Int) {ps : List (List Int)} (hs : Small ps) (h64 : R64 ps) : D_spec_ColumnsOf fu n ps = some (colsOf n ps) ∧ D_impl_ColumnsOf fu n ps = some (colsOf n ps) := by
  unfold D_spec_ColumnsOf D_impl_ColumnsOf colsOf
  rw [l04Is_D hf n hs, IsSquare_D hf n hs h64, Option.bind_some, Option.bind_some]
  cases h : isSq n ps with
  | false => exact ⟨rfl, rfl⟩
  | true =>
    obtain ⟨hn, hl, hr, hc⟩ := isSq_of h
    obtain ⟨hr', hc'⟩ := tr_all h
    have hl' : ((tr n.toNat ps).length : Int) = n := by rw [tr_len]; omega
    rw [l04Transposed_D hf ⟨by omega, by omega⟩ hl hr, turned_D hf ⟨by omega, by omega⟩ hl hr]
    simp only [Option.bind_some, bif_false, bif_true, Bool.not_true, Bool.not_false, sRows_D hf hn hl' hr' hc', iRows_D hf hn hl' hr' hc']
    cases rowsF n (tr n.toNat ps) <;> exact ⟨rfl, rfl⟩
theorem stC_len {r s : List Int} {c : Int} (h : stC r c = some s) : s.length = r.length := by
  unfold stC stP at h
  split at h
  · split at h
    · obtain rfl := Option.some.inj h; exact meet1_len _ _
    · cases h
  · obtain rfl := Option.some.inj h; rfl
theorem stC_all : ∀ (row : List Int) {r s : List Int}, row.foldlM stC r = some s → s.length = r.length
  | [], r, s, h => by obtain rfl := Option.some.inj h; rfl
  | c :: row, r, s, h => by
    rw [List.foldlM_cons] at h
    obtain ⟨t, h1, h2⟩ := Option.bind_eq_some_iff.1 h
    rw [stC_all row h2, stC_len h1]
theorem rowG_all {n : Int} : ∀ (ps acc : List (List Int)) {rs : List (List Int)}, ps.foldlM (rowG n) acc = some rs → All 14 acc → All 14 rs ∧ rs.length = acc.length + ps.length
  | [], acc, rs, h, hA => by obtain rfl := Option.some.inj h; exact ⟨hA, rfl⟩
  | p :: ps, acc, rs, h, hA => by
    rw [List.foldlM_cons] at h
    obtain ⟨t, h1, h2⟩ := Option.bind_eq_some_iff.1 h
    unfold rowG at h1
    rw [Option.map_eq_some_iff] at h1
    obtain ⟨r, h1, rfl⟩ := h1
    have := rowG_all ps _ h2 (by
      intro x hx
      rcases List.mem_append.1 hx with hx | hx
      · exact hA x hx
      · rw [List.mem_singleton.1 hx, stC_all _ h1]; exact frI_len _)
    refine ⟨this.1, ?_⟩
    rw [this.2, List.length_append, List.length_cons]; simp; omega
theorem rowsF_all {n : Int} (hn : n ≤ 13) {ps : List (List Int)} (hl : (ps.length : Int) = n) (x : Int) : All 14 ((rowsF n ps).elim ((0 : Int), ([] : List (List Int)), (5 : Int)) fun rs => (x, rs, 0)).2.1 ∧ ((rowsF n ps).elim ((0 : Int), ([] : List (List Int)), (5 : Int)) fun rs => (x, rs, 0)).2.1.length ≤ 13 := by
  cases h : rowsF n ps with
  | none => exact ⟨fun r h => absurd h List.not_mem_nil, Nat.zero_le _⟩
  | some rs =>
    obtain ⟨h1, h2⟩ := rowG_all ps [] h (fun r h => absurd h List.not_mem_nil)
    refine ⟨h1, ?_⟩
    show rs.length ≤ 13
    rw [h2, List.length_nil]; omega
theorem rowsOf_all (n : Int) (ps : List (List Int)) : All 14 (rowsOf n ps).2.1 ∧ (rowsOf n ps).2.1.length ≤ 13 := by
  unfold rowsOf
  split
  · rename_i h
    obtain ⟨hn, hl, hr, hc⟩ := isSq_of h
    exact rowsF_all hn.2 hl _
  · exact ⟨fun r h => absurd h List.not_mem_nil, Nat.zero_le _⟩
theorem colsOf_all (n : Int) (ps : List (List Int)) : All 14 (colsOf n ps).2.1 ∧ (colsOf n ps).2.1.length ≤ 13 := by
  unfold colsOf
  split
  · rename_i h
    obtain ⟨hn, hl, hr, hc⟩ := isSq_of h
    exact rowsF_all hn.2 (by rw [tr_len]; omega) _
  · exact ⟨fun r h => absurd h List.not_mem_nil, Nat.zero_le _⟩
theorem rowsOf_law {fu : Nat} (hf : Big fu) (n : Int) {ps : List (List Int)} (hl : ps.length ≤ 9223372036854775807) (hr : ∀ r ∈ ps, r.length ≤ 9223372036854775807 ∧ all64 r) : D_laws_FnExactRowsOf fu n ps = some true := by
  unfold D_laws_FnExactRowsOf
  rw [szSquare_D hf (by omega) (by omega) hl (fun r h => (hr r h).1), Option.bind_some]
  by_cases h : (if szv 1048576 ps.length < 0 then -1 else szR (szv 1048576 ps.length) ps) < 0
  · rw [if_pos h, bif_dt (by decide)]
  · obtain ⟨h1, h2⟩ := sz_small h
    have h3 := sz_tot h
    have hs : Small ps := ⟨by omega, fun r hr => by have := h2 r hr; omega⟩
    have h64 : R64 ps := fun r h => (hr r h).2
    rw [if_neg h, bif_df h]
    obtain ⟨e1, e2⟩ := rowsOf_eqs hf n hs h64
    obtain ⟨w1, w2⟩ := rowsOf_all n ps
    generalize rowsOf n ps = w at e1 e2 w1 w2
    obtain ⟨m, ws, c⟩ := w
    have t2 := tot14 w1
    have m1 := markSquare_D hf (n := n) (k := 1) hs (by omega) (by omega)
    have m2 := markSchedule_D hf (n := m) (k := 1) w1 (by omega) (by omega) (by omega)
    have m3 := heldSchedule_D hf (n := m) (k := 1) w1 (by omega) (by omega) (by omega)
    simp (disch := omega) only [toSquare_D hf hs, e1, e2, Option.bind_some, eqSchedule_D hf w1 w1 (by omega), eqSquare_D hf hs, decide_true, Bool.and_true, Bool.not_true, bif_false, m1, m2, m3, bif_df, bif_nt]
theorem colsOf_law {fu : Nat} (hf : Big fu) (n : Int) {ps : List (List Int)} (hl : ps.length ≤ 9223372036854775807) (hr : ∀ r ∈ ps, r.length ≤ 9223372036854775807 ∧ all64 r) : D_laws_FnExactColumnsOf fu n ps = some true := by
  unfold D_laws_FnExactColumnsOf
  rw [szSquare_D hf (by omega) (by omega) hl (fun r h => (hr r h).1), Option.bind_some]
  by_cases h : (if szv 1048576 ps.length < 0 then -1 else szR (szv 1048576 ps.length) ps) < 0
  · rw [if_pos h, bif_dt (by decide)]
  · obtain ⟨h1, h2⟩ := sz_small h
    have h3 := sz_tot h
    have hs : Small ps := ⟨by omega, fun r hr => by have := h2 r hr; omega⟩
    have h64 : R64 ps := fun r h => (hr r h).2
    rw [if_neg h, bif_df h]
    obtain ⟨e1, e2⟩ := colsOf_eqs hf n hs h64
    obtain ⟨w1, w2⟩ := colsOf_all n ps
    generalize colsOf n ps = w at e1 e2 w1 w2
    obtain ⟨m, ws, c⟩ := w
    have t2 := tot14 w1
    have m1 := markSquare_D hf (n := n) (k := 1) hs (by omega) (by omega)
    have m2 := markSchedule_D hf (n := m) (k := 1) w1 (by omega) (by omega) (by omega)
    have m3 := heldSchedule_D hf (n := m) (k := 1) w1 (by omega) (by omega) (by omega)
    simp (disch := omega) only [toSquare_D hf hs, e1, e2, Option.bind_some, eqSchedule_D hf w1 w1 (by omega), eqSquare_D hf hs, decide_true, Bool.and_true, Bool.not_true, bif_false, m1, m2, m3, bif_df, bif_nt]
end Go.Proofs.Ytpaaoafgahbokaa

