/-
  Texts joined: PuE, PuG, PuP, PuFA. Plain Lean. No condition.
-/
import Derived.Test.YtdafmafigcljkaaGreatDA
import Derived.Test.YtdafmafigcljkaaGreatDB
import Derived.Test.YtdafmafigcljkaaGreatQa
import Derived.Test.YtdafmafigcljkaaGreatDG
import Derived.Test.YtdafmafigcljkaaGreatDMb
import Derived.Test.YtdafmafigcljkaaGreatDI
namespace Go.Proofs.YtdafmafigcljkaaGreat
open Go Am
set_option linter.unusedVariables false
set_option linter.unusedSimpArgs false
def sms (m : Int) (ps : List (List Int)) : List Int := ps.map (sum1 m)
theorem sms_len (m : Int) (ps : List (List Int)) : (sms m ps).length = ps.length := List.length_map ..
theorem sms_in {m : Int} {ps : List (List Int)} (h : stCode m ps = 0) : ∀ x ∈ sms m ps, 0 ≤ x ∧ x < m := by
  obtain ⟨hn, hok, hl⟩ := stCode_zero h
  intro x hx
  obtain ⟨p, hp, rfl⟩ := List.mem_map.1 hx
  obtain ⟨o0, o1, o2, o3⟩ := okS_of (hok _ hp)
  unfold sum1
  rw [mod2 (by omega) (by omega) (by omega)]
  split <;> omega
theorem iSums_D {fu : Nat} (hf : Big fu) {m : Int} {ps : List (List Int)} (h : stCode m ps = 0) : D_impl_sums fu m ps = some (sms m ps) := by
  obtain ⟨hn, hok, hl2⟩ := stCode_zero h
  unfold Big at hf
  unfold D_impl_sums sms
  rw [loop_seq (fun k => ((ps.take k).map (sum1 m), (k : Int))) ps.length (ps.map (sum1 m)) (by omega) ?_ ?_ (s := ([], 0)) (by simp)]
  · rfl
  · intro k hk
    obtain ⟨o0, o1, o2, o3⟩ := okS_of (hok _ (rw_mem hk))
    have hm : ((ps.take k).map (sum1 m)).length = k := by simp; omega
    unfold D_impl_sums_s0
    simp (disch := omega) only [chk_inR, chk_in64, chk_ne, chk_le, bif_dt, Int.toNat_natCast]
    rw [← map_take_rw' hk]; rfl
  · unfold D_impl_sums_s0
    simp (disch := omega) only [bif_df]
    rw [List.take_length]
theorem sSums_D {fu : Nat} (hf : Big fu) {m : Int} {ps : List (List Int)} (h : stCode m ps = 0) : D_spec_l03Sums fu m ps = some (sms m ps) := by
  unfold D_spec_l03Sums
  rw [sums_loop hf h]; rfl
theorem iStrong_D {fu : Nat} (hf : Big fu) {m : Int} {ps : List (List Int)} (h : stCode m ps = 0) : D_impl_isStrong fu m ps = some (difN (sms m ps)) := by
  obtain ⟨hn, hok, hl2⟩ := stCode_zero h
  have := sms_len m ps
  unfold D_impl_isStrong
  rw [iSums_D hf h, Option.bind_some, areDifferent_D hf (by omega)]; rfl
theorem sStrong_D {fu : Nat} (hf : Big fu) {m : Int} {ps : List (List Int)} (h : stCode m ps = 0) : D_spec_l03Strong fu m ps = some (difN (sms m ps)) := by
  obtain ⟨hn, hok, hl2⟩ := stCode_zero h
  have hsl := sms_len m ps
  have hin := sms_in h
  have hf' := hf
  unfold Big at hf
  unfold D_spec_l03Strong
  rw [chk_and (by omega) (by omega), sSums_D hf' h, Option.bind_some, chk_inR (by omega) (by omega)]
  rw [loop_optF (fun k met => mk1 met (rd (sms m ps) k)) (fun _ met => met.length = m.toNat) (sms m ps).length (fun _ => .inl ()) (.inr false) (by omega) (by simp) ?_ ?_ ?_, optF_list, ← mk_dif (m := m.toNat) (by omega) (xs := sms m ps) (fun x hx => by have := hin x hx; omega)]
  · cases (sms m ps).foldlM mk1 ((List.replicate m.toNat false).set 0 true) <;> rfl
  · intro k met met' hk hP hg
    have h1 := hin _ (rd_mem hk)
    unfold mk1 at hg
    split at hg
    · cases hg
    · rename_i h2
      obtain rfl := Option.some.inj hg
      refine ⟨?_, by rw [List.length_set]; exact hP⟩
      rw [Bool.not_eq_true] at h2
      unfold D_spec_l03Strong_s0
      simp (disch := omega) only [bif_dt, chk_inR, chk_in64, Int.toNat_natCast, h2, bif_false]
  · intro k met hk hP hg
    have h1 := hin _ (rd_mem hk)
    unfold mk1 at hg
    split at hg
    · rename_i h2
      unfold D_spec_l03Strong_s0
      simp (disch := omega) only [bif_dt, chk_inR, chk_in64, Int.toNat_natCast, h2, bif_true]
    · cases hg
  · intro met hP
    unfold D_spec_l03Strong_s0
    simp (disch := omega) only [bif_df]
def skew1 (m : Int) (xs : List Int) : Bool := (List.range xs.length).all fun i => (List.range (i + 1)).all fun k => !decide ((rd xs i + rd xs k).tmod m = 0)
theorem sSkew_loop {fu : Nat} (hf : Big fu) {m : Int} (hm : 0 < m ∧ m ≤ 13) {xs : List Int} (hl : xs.length ≤ 100) (hx : ∀ x ∈ xs, 0 ≤ x ∧ x < m) : loopF (D_spec_l03Skew_s0 fu m xs) fu 0 = some (if skew1 m xs then .inl () else .inr false) := by
  unfold Big at hf
  have hin : ∀ i, i < xs.length → loopF (D_spec_l03Skew_s1 fu m xs (i : Int)) fu 0 = some (if (List.range (i + 1)).all (fun k => !decide ((rd xs i + rd xs k).tmod m = 0)) then .inl () else .inr false) := by
    intro i hi
    have h1 := hx _ (rd_mem hi)
    rw [loop_all (fun k => (k : Int)) (fun k => !decide ((rd xs i + rd xs k).tmod m = 0)) (i + 1) (by omega) ?_ ?_ ?_ (s := 0) rfl]
    all_goals first | (intro k hk hp _) | intro _
    · have h2 := hx _ (rd_mem (by omega : k < xs.length))
      have hp' : ¬ (rd xs i + rd xs k).tmod m = 0 := by simpa using hp
      unfold D_spec_l03Skew_s1
      rw [bif_dt (by omega), chk_inR (by omega) (by omega), chk_inR (by omega) (by omega), Int.toNat_natCast, Int.toNat_natCast, chk_in64 (by omega) (by omega), chk_ne (by omega), bif_df hp', chk_in64 (by omega) (by omega)]; rfl
    · have h2 := hx _ (rd_mem (by omega : k < xs.length))
      have hp' : (rd xs i + rd xs k).tmod m = 0 := by simpa using hp
      unfold D_spec_l03Skew_s1
      rw [bif_dt (by omega), chk_inR (by omega) (by omega), chk_inR (by omega) (by omega), Int.toNat_natCast, Int.toNat_natCast, chk_in64 (by omega) (by omega), chk_ne (by omega), bif_dt hp']
    · unfold D_spec_l03Skew_s1
      simp (disch := omega) only [bif_df]
  unfold skew1
  rw [loop_all (fun k => (k : Int)) (fun i => (List.range (i + 1)).all fun k => !decide ((rd xs i + rd xs k).tmod m = 0)) xs.length (by omega) ?_ ?_ ?_ (s := 0) rfl]
  all_goals first | (intro k hk hp _) | intro _
  all_goals unfold D_spec_l03Skew_s0
  · rw [bif_dt (by omega), hin k hk, if_pos hp, Option.bind_some]
    simp (disch := omega) only [chk_in64]; rfl
  · rw [bif_dt (by omega), hin k hk, hp]; rfl
  · simp (disch := omega) only [bif_df]
theorem sSkew_D {fu : Nat} (hf : Big fu) {m : Int} {ps : List (List Int)} (h : stCode m ps = 0) : D_spec_l03Skew fu m ps = some (skew1 m (sms m ps) && difN (sms m ps)) := by
  obtain ⟨hn, hok, hl2⟩ := stCode_zero h
  have hsl := sms_len m ps
  unfold D_spec_l03Skew
  rw [sSums_D hf h, Option.bind_some, sSkew_loop hf ⟨by omega, by omega⟩ (by omega) (sms_in h)]
  cases skew1 m (sms m ps) with
  | false => rfl
  | true => simp only [if_true, Option.bind_some, sStrong_D hf h, Bool.true_and]
def sAdd (m : Int) (ps : List (List Int)) : List Int := (sms m ps).map fun x => m - x
def strongAdd (m : Int) (ps : List (List Int)) : List Int × Int := if stCode m ps = 0 then if difN (sms m ps) then (sAdd m ps, 0) else ([], 5) else ([], stCode m ps)
theorem take_rd' {l : List Int} {k : Nat} (h : k < l.length) : l.take (k + 1) = l.take k ++ [rd l k] := by
  rw [List.take_add_one, List.getElem?_eq_getElem h]; simp [rd, List.getD_eq_getElem?_getD, List.getElem?_eq_getElem h]
theorem sAdd_loop {fu : Nat} (hf : Big fu) {m : Int} (hm : 0 < m ∧ m ≤ 13) {xs : List Int} (hl : xs.length ≤ 100) (hx : ∀ x ∈ xs, 0 ≤ x ∧ x < m) : loopF (D_spec_StrongAdder_s0 fu m xs) fu ([], 0) = some (xs.map fun x => m - x) := by
  unfold Big at hf
  rw [loop_seq (fun k => ((xs.take k).map (fun x => m - x), (k : Int))) xs.length (xs.map fun x => m - x) (by omega) ?_ ?_ (s := ([], 0)) (by simp)]
  · intro k hk
    have h1 := hx _ (rd_mem hk)
    have hm : ((xs.take k).map (fun x => m - x)).length = k := by simp; omega
    unfold D_spec_StrongAdder_s0
    simp (disch := omega) only [chk_inR, chk_in64, chk_le, bif_dt, Int.toNat_natCast]
    rw [take_rd' hk, List.map_append]; rfl
  · unfold D_spec_StrongAdder_s0
    simp (disch := omega) only [bif_df]
    rw [List.take_length]
theorem iAdd_loop {fu : Nat} (hf : Big fu) {m : Int} (hm : 0 < m ∧ m ≤ 13) {xs : List Int} (hl : xs.length ≤ 100) (hx : ∀ x ∈ xs, 0 ≤ x ∧ x < m) : loopF (D_impl_StrongAdder_s0 fu m xs) fu ([], 0) = some (xs.map fun x => m - x) := sAdd_loop hf hm hl hx
theorem strongAdd_eqs {fu : Nat} (hf : Big fu) (m : Int) {ps : List (List Int)} (hl : ps.length ≤ 4294967296) : D_spec_StrongAdder fu m ps = some (strongAdd m ps) ∧ D_impl_StrongAdder fu m ps = some (strongAdd m ps) := by
  unfold D_spec_StrongAdder D_impl_StrongAdder strongAdd
  rw [l03Code_D hf m hl, starterCode_D hf m hl, Option.bind_some, Option.bind_some]
  by_cases h : stCode m ps = 0
  · obtain ⟨hn, _, hl2⟩ := stCode_zero h
    have hsl := sms_len m ps
    rw [bif_nt h, bif_dt h, if_pos h, sStrong_D hf h, iStrong_D hf h]
    cases difN (sms m ps) with
    | false => exact ⟨rfl, rfl⟩
    | true =>
      have e1 := sAdd_loop hf ⟨by omega, by omega⟩ (by omega) (sms_in h)
      have e2 := iAdd_loop hf ⟨by omega, by omega⟩ (by omega) (sms_in h)
      simp only [Option.bind_some, Bool.not_true, bif_false, h, decide_true, sSums_D hf h, iSums_D hf h, e1, e2, if_true]
      exact ⟨rfl, rfl⟩
  · rw [bif_nf h, bif_df h, if_neg h, Option.bind_some, bif_false, Option.bind_some, bif_nf h]; exact ⟨rfl, rfl⟩
theorem strongAdd_len (m : Int) (ps : List (List Int)) : (strongAdd m ps).1.length ≤ 6 := by
  unfold strongAdd
  split
  · rename_i h
    obtain ⟨hn, hok, hl2⟩ := stCode_zero h
    split
    · show (sAdd m ps).length ≤ 6
      unfold sAdd; rw [List.length_map, sms_len]; omega
    · exact Nat.zero_le _
  · exact Nat.zero_le _
end Go.Proofs.YtdafmafigcljkaaGreat
namespace Go.Proofs.YtdafmafigcljkaaGreat
open Go Am
set_option linter.unusedVariables false
set_option linter.unusedSimpArgs false
theorem rw3_mem {l : List (List (List Int))} {k : Nat} (h : k < l.length) : rw3 l k ∈ l := by
  unfold rw3; rw [List.getD_eq_getElem?_getD, List.getElem?_eq_getElem h]; exact List.getElem_mem h
theorem rw3_of {l : List (List (List Int))} {r : List (List Int)} (h : r ∈ l) : ∃ k, k < l.length ∧ rw3 l k = r := by
  obtain ⟨k, hk, rfl⟩ := List.getElem_of_mem h
  exact ⟨k, hk, by simp [rw3, List.getD_eq_getElem?_getD, List.getElem?_eq_getElem hk]⟩
theorem all_rw3 {l : List (List (List Int))} {p : List (List Int) → Bool} : (List.range l.length).all (fun k => p (rw3 l k)) = l.all p := by
  rw [Bool.eq_iff_iff, List.all_eq_true, List.all_eq_true]
  constructor
  · intro h r hr
    obtain ⟨k, hk, rfl⟩ := rw3_of hr
    exact h k (List.mem_range.2 hk)
  · intro h k hk
    exact h _ (rw3_mem (List.mem_range.1 hk))
theorem find_all {n : Nat} {p : Nat → Bool} {R : Type} {a b : R} : (if firstNot p n < n then b else a) = if (List.range n).all p then a else b := by
  by_cases h : firstNot p n < n
  · rw [if_pos h, if_neg (fun h' => all_range.1 h' h)]
  · rw [if_neg h, if_pos (all_range.2 h)]
theorem starterCodeL_D {fu : Nat} (hf : Big fu) (m : Int) {pss : List (List (List Int))} (hn : pss.length ≤ 10) (hl : ∀ ps ∈ pss, ps.length ≤ 4294967296) {q : Unit → Option Bool} {b : Bool} (hq : isMod m = true → pss.all (fun ps => ps.all (okS m)) = true → q () = some b) :
    D_impl_starterCode fu m q pss = some (if isMod m && pss.all (fun ps => ps.all (okS m)) then if b then if pss.all (isSt m) then 0 else 1 else 2 else 2) := by
  have hf' := hf
  unfold Big at hf
  unfold D_impl_starterCode
  rw [isModulus_D, Option.bind_some]
  cases hm : isMod m with
  | false => rfl
  | true =>
    have hn2 := isMod_of hm
    rw [Bool.not_true, bif_false, Bool.true_and]
    rw [loop_find (fun k => (k : Int)) (fun k => (rw3 pss k).all (okS m)) pss.length (.inl ()) (fun _ => .inr 2) (by omega) ?_ ?_ ?_ (s := 0) rfl]
    · rw [find_all, all_rw3 (p := fun ps => ps.all (okS m))]
      cases hok : pss.all (fun ps => ps.all (okS m)) with
      | false => rfl
      | true =>
        have hok' := hok
        rw [List.all_eq_true] at hok'
        simp only [if_true, Option.bind_some, hq hm hok]
        cases b with
        | false => rfl
        | true =>
          simp only [Bool.not_true, bif_false, if_true]
          rw [loop_find (fun k => (k : Int)) (fun k => isSt m (rw3 pss k)) pss.length (.inl ()) (fun _ => .inr 1) (by omega) ?_ ?_ ?_ (s := 0) rfl]
          · rw [find_all, all_rw3]
            cases pss.all (isSt m) <;> rfl
          all_goals first | (intro k hk hp _) | intro _
          all_goals unfold D_impl_starterCode_s1
          · have := isStarter_D hf' (m := m) ⟨hn2.1, hn2.2.1⟩ (hl _ (rw3_mem hk)) (List.all_eq_true.1 (hok' _ (rw3_mem hk)))
            simp (disch := omega) only [bif_dt, chk_inR, chk_in64, Int.toNat_natCast, this, hp, Option.bind_some, Bool.not_true, bif_false]; rfl
          · have := isStarter_D hf' (m := m) ⟨hn2.1, hn2.2.1⟩ (hl _ (rw3_mem hk)) (List.all_eq_true.1 (hok' _ (rw3_mem hk)))
            simp (disch := omega) only [bif_dt, chk_inR, chk_in64, Int.toNat_natCast, this, hp, Option.bind_some, Bool.not_false, bif_true]
          · simp (disch := omega) only [bif_df]
    all_goals first | (intro k hk hp _) | intro _
    all_goals unfold D_impl_starterCode_s0
    · have := arePairs_D hf' (m := m) ⟨hn2.1, hn2.2.1⟩ (hl _ (rw3_mem hk))
      simp (disch := omega) only [bif_dt, chk_inR, chk_in64, Int.toNat_natCast, this, hp, Option.bind_some, Bool.not_true, bif_false]; rfl
    · have := arePairs_D hf' (m := m) ⟨hn2.1, hn2.2.1⟩ (hl _ (rw3_mem hk))
      simp (disch := omega) only [bif_dt, chk_inR, chk_in64, Int.toNat_natCast, this, hp, Option.bind_some, Bool.not_false, bif_true]
    · simp (disch := omega) only [bif_df]
theorem isSt_ord {m : Int} {ps : List (List Int)} (h : isSt m ps = true) (hok : ∀ p ∈ ps, okS m p = true) : ∀ p ∈ ps, rd p 0 < rd p 1 := by
  unfold isSt at h
  rw [Bool.and_eq_true, List.all_eq_true] at h
  intro p hp
  obtain ⟨k, hk, rfl⟩ := rw_of hp
  obtain ⟨_, _, _, o3⟩ := okS_of (hok _ hp)
  have := h.1 k (List.mem_range.2 hk)
  unfold ord sy sx at this
  rw [Bool.and_eq_true, Bool.not_eq_true', decide_eq_false_iff_not] at this
  omega
def adX (m : Int) (p : List Int) (a : Int) : Int := (rd p 0 + a).tmod m
def adY (m : Int) (p : List Int) (a : Int) : Int := (rd p 1 + a).tmod m
def adL (m : Int) (ps : List (List Int)) (as : List Int) (k : Nat) : List Int := (List.range k).flatMap fun i => [adX m (rw_ ps i) (rd as i), adY m (rw_ ps i) (rd as i)]
theorem adL_succ (m : Int) (ps : List (List Int)) (as : List Int) (k : Nat) : adL m ps as (k + 1) = adL m ps as k ++ [adX m (rw_ ps k) (rd as k), adY m (rw_ ps k) (rd as k)] := by
  unfold adL; rw [List.range_succ, List.flatMap_append]; simp
theorem adL_len (m : Int) (ps : List (List Int)) (as : List Int) : ∀ k, (adL m ps as k).length = 2 * k
  | 0 => rfl
  | k + 1 => by rw [adL_succ, List.length_append, adL_len m ps as k]; simp; omega
theorem ad_in {m : Int} {p : List Int} {a : Int} (hm : 3 ≤ m ∧ m ≤ 13) (hp : okS m p = true) (ha : 1 ≤ a ∧ a ≤ m - 1) : (0 ≤ adX m p a ∧ adX m p a < m) ∧ (0 ≤ adY m p a ∧ adY m p a < m) ∧ adX m p a ≠ adY m p a := by
  obtain ⟨o0, o1, o2, o3⟩ := okS_of hp
  unfold adX adY
  rw [mod2 (by omega) (by omega) (by omega), mod2 (by omega) (by omega) (by omega)]
  split <;> split <;> omega
def isAdd (m : Int) (ps : List (List Int)) (as : List Int) : Bool := difN as && difN (adL m ps as as.length)
theorem isAdder_D {fu : Nat} (hf : Big fu) {m : Int} (hm : 3 ≤ m ∧ m ≤ 13) {ps : List (List Int)} {as : List Int} (hl : as.length ≤ ps.length) (h100 : ps.length ≤ 100) (hok : ∀ p ∈ ps, okS m p = true) (ha : ∀ a ∈ as, 1 ≤ a ∧ a ≤ m - 1) :
    D_impl_isAdder fu m ps as = some (isAdd m ps as) := by
  have hf' := hf
  have hal := adL_len m ps as as.length
  unfold Big at hf
  unfold D_impl_isAdder isAdd
  rw [loop_seq (fun k => (adL m ps as k, (k : Int))) as.length (adL m ps as as.length) (by omega) ?_ ?_ (s := ([], 0)) rfl]
  · rw [Option.bind_some, areDifferent_D hf' (by omega), areDifferent_D hf' (by omega)]
    cases difN as <;> rfl
  · intro k hk
    obtain ⟨o0, o1, o2, o3⟩ := okS_of (hok _ (rw_mem (by omega : k < ps.length)))
    have h1 := ha _ (rd_mem hk)
    have hkl := adL_len m ps as k
    unfold D_impl_isAdder_s0
    simp (disch := omega) only [chk_inR, chk_in64, chk_ne, chk_le, bif_dt, Int.toNat_natCast]
    rw [adL_succ]; rfl
  · unfold D_impl_isAdder_s0
    simp (disch := omega) only [bif_df]
def adG (m : Int) (ps : List (List Int)) (as : List Int) (k : Nat) (s : List Bool × List Bool) : Option (List Bool × List Bool) :=
  if rdb s.1 (adX m (rw_ ps k) (rd as k)).toNat || (rdb s.1 (adY m (rw_ ps k) (rd as k)).toNat || rdb s.2 (rd as k).toNat) then none
  else some ((s.1.set (adX m (rw_ ps k) (rd as k)).toNat true).set (adY m (rw_ ps k) (rd as k)).toNat true, s.2.set (rd as k).toNat true)
theorem adG_fold {m : Int} (hm : 3 ≤ m ∧ m ≤ 13) {ps : List (List Int)} {as : List Int} (hl : as.length ≤ ps.length) (hok : ∀ p ∈ ps, okS m p = true) (ha : ∀ a ∈ as, 1 ≤ a ∧ a ≤ m - 1) :
    ∀ (j k : Nat) (s : List Bool × List Bool), k + j = as.length → s.1.length = m.toNat → s.2.length = m.toNat →
      (optF (adG m ps as) j k s).isSome = ((((List.range' k j).flatMap fun i => [adX m (rw_ ps i) (rd as i), adY m (rw_ ps i) (rd as i)]).foldlM mk1 s.1).isSome && ((as.drop k).foldlM mk1 s.2).isSome)
  | 0, k, s, h, _, _ => by rw [List.drop_of_length_le (by omega)]; rfl
  | j + 1, k, s, h, h1, h2 => by
    have hk : k < as.length := by omega
    obtain ⟨i1, i2, i3⟩ := ad_in hm (hok _ (rw_mem (by omega : k < ps.length))) (ha _ (rd_mem hk))
    have ia := ha _ (rd_mem hk)
    have hd : as.drop k = rd as k :: as.drop (k + 1) := by
      rw [List.drop_eq_getElem_cons hk, rd_get]
    rw [optF_succ, List.range'_succ, List.flatMap_cons, hd, List.foldlM_cons, List.cons_append, List.foldlM_cons, List.cons_append, List.nil_append]
    have hy : ∀ met : List Bool, met.length = m.toNat → rdb (met.set (adX m (rw_ ps k) (rd as k)).toNat true) (adY m (rw_ ps k) (rd as k)).toNat = rdb met (adY m (rw_ ps k) (rd as k)).toNat := fun met hmet => by
      rw [rdb_set (by omega), if_neg (by omega)]
    unfold adG
    generalize hb1 : rdb s.1 (adX m (rw_ ps k) (rd as k)).toNat = b1
    generalize hb2 : rdb s.1 (adY m (rw_ ps k) (rd as k)).toNat = b2
    generalize hb3 : rdb s.2 (rd as k).toNat = b3
    have e1 : mk1 s.1 (adX m (rw_ ps k) (rd as k)) = if b1 then none else some (s.1.set (adX m (rw_ ps k) (rd as k)).toNat true) := by unfold mk1; rw [hb1]
    have e3 : mk1 s.2 (rd as k) = if b3 then none else some (s.2.set (rd as k).toNat true) := by unfold mk1; rw [hb3]
    rw [e1, e3]
    cases b1 with
    | true => rfl
    | false =>
      have e2 : mk1 (s.1.set (adX m (rw_ ps k) (rd as k)).toNat true) (adY m (rw_ ps k) (rd as k)) = if b2 then none else some ((s.1.set (adX m (rw_ ps k) (rd as k)).toNat true).set (adY m (rw_ ps k) (rd as k)).toNat true) := by unfold mk1; rw [hy _ h1, hb2]
      show Option.isSome (Option.bind _ _) = (Option.isSome (Option.bind (mk1 (s.1.set (adX m (rw_ ps k) (rd as k)).toNat true) (adY m (rw_ ps k) (rd as k))) _) && _)
      rw [e2]
      cases b2 with
      | true => rfl
      | false =>
        cases b3 with
        | true =>
          show false = (_ && false)
          rw [Bool.and_false]
        | false => exact adG_fold hm hl hok ha j (k + 1) _ (by omega) (by simp; exact h1) (by simp; exact h2)
theorem l03Adder_D {fu : Nat} (hf : Big fu) {m : Int} (hm : 3 ≤ m ∧ m ≤ 13) {ps : List (List Int)} {as : List Int} (hl : as.length ≤ ps.length) (h100 : ps.length ≤ 100) (hok : ∀ p ∈ ps, okS m p = true) (ha : ∀ a ∈ as, 1 ≤ a ∧ a ≤ m - 1) :
    D_spec_l03Adder fu m ps as = some (isAdd m ps as) := by
  have hf' := hf
  unfold Big at hf
  unfold D_spec_l03Adder
  rw [chk_and (by omega) (by omega), chk_and (by omega) (by omega), chk_inR (by omega) (by omega)]
  have hloop : loopF (D_spec_l03Adder_s0 fu m ps as) fu ((List.replicate m.toNat false).set 0 true, List.replicate m.toNat false, 0) = some ((optF (adG m ps as) as.length 0 ((List.replicate m.toNat false).set 0 true, List.replicate m.toNat false)).elim (.inr false) fun _ => .inl ()) := by
    have key : ∀ (j k fv : Nat) (s : List Bool × List Bool), k + j = as.length → j < fv → s.1.length = m.toNat → s.2.length = m.toNat → loopF (D_spec_l03Adder_s0 fu m ps as) fv (s.1, s.2, (k : Int)) = some ((optF (adG m ps as) j k s).elim (.inr false) fun _ => .inl ()) := by
      intro j
      induction j with
      | zero =>
        intro k fv s hkj hfv _ _
        cases fv with
        | zero => exact absurd hfv (Nat.not_lt_zero _)
        | succ fv =>
          rw [loop_out (r := .inl ())]
          · rfl
          · unfold D_spec_l03Adder_s0
            simp (disch := omega) only [bif_df]
      | succ j ih =>
        intro k fv s hkj hfv h1 h2
        cases fv with
        | zero => exact absurd hfv (Nat.not_lt_zero _)
        | succ fv =>
          have hk : k < as.length := by omega
          obtain ⟨o0, o1, o2, o3⟩ := okS_of (hok _ (rw_mem (by omega : k < ps.length)))
          obtain ⟨i1, i2, i3⟩ := ad_in hm (hok _ (rw_mem (by omega : k < ps.length))) (ha _ (rd_mem hk))
          have ia := ha _ (rd_mem hk)
          have hg : adG m ps as k s = if rdb s.1 (adX m (rw_ ps k) (rd as k)).toNat || (rdb s.1 (adY m (rw_ ps k) (rd as k)).toNat || rdb s.2 (rd as k).toNat) then none
            else some ((s.1.set (adX m (rw_ ps k) (rd as k)).toNat true).set (adY m (rw_ ps k) (rd as k)).toNat true, s.2.set (rd as k).toNat true) := rfl
          rw [optF_succ]
          unfold adX adY at *
          generalize hb1 : rdb s.1 ((rd (rw_ ps k) 0 + rd as k).tmod m).toNat = b1 at hg
          generalize hb2 : rdb s.1 ((rd (rw_ ps k) 1 + rd as k).tmod m).toNat = b2 at hg
          generalize hb3 : rdb s.2 (rd as k).toNat = b3 at hg
          by_cases hb : (b1 || (b2 || b3)) = true
          · rw [if_pos hb] at hg
            rw [hg, loop_out (r := .inr false)]
            · rfl
            · unfold D_spec_l03Adder_s0
              simp (disch := omega) only [chk_inR, chk_in64, chk_ne, bif_dt, Int.toNat_natCast, hb1, hb2, hb3]
              cases b1 <;> cases b2 <;> cases b3 <;> first | (exact absurd hb (by decide)) | rfl
          · rw [if_neg hb] at hg
            rw [hg, loop_go (s' := ((s.1.set ((rd (rw_ ps k) 0 + rd as k).tmod m).toNat true).set ((rd (rw_ ps k) 1 + rd as k).tmod m).toNat true, s.2.set (rd as k).toNat true, (k : Int) + 1))]
            · have := ih (k + 1) fv ((s.1.set ((rd (rw_ ps k) 0 + rd as k).tmod m).toNat true).set ((rd (rw_ ps k) 1 + rd as k).tmod m).toNat true, s.2.set (rd as k).toNat true) (by omega) (by omega) (by simp; exact h1) (by simp; exact h2)
              rw [show ((k : Int) + 1) = ((k + 1 : Nat) : Int) by omega]
              exact this
            · unfold D_spec_l03Adder_s0
              simp (disch := omega) only [chk_inR, chk_in64, chk_ne, bif_dt, Int.toNat_natCast, hb1, hb2, hb3]
              cases b1 <;> cases b2 <;> cases b3 <;> first | (exact absurd rfl hb) | rfl
    exact key as.length 0 fu (_, _) (by omega) (by omega) (by simp) (by simp)
  rw [hloop]
  have h := adG_fold hm hl hok ha as.length 0 ((List.replicate m.toNat false).set 0 true, List.replicate m.toNat false) (by omega) (by simp) (by simp)
  have e1 : ((List.range' 0 as.length).flatMap fun i => [adX m (rw_ ps i) (rd as i), adY m (rw_ ps i) (rd as i)]) = adL m ps as as.length := by unfold adL; rw [List.range_eq_range']
  have hin : ∀ x ∈ adL m ps as as.length, 0 ≤ x ∧ x < (m.toNat : Int) := by
    intro x hx
    obtain ⟨i, hi, hx⟩ := List.mem_flatMap.1 hx
    have hi' := List.mem_range.1 hi
    obtain ⟨i1, i2, i3⟩ := ad_in hm (hok _ (rw_mem (by omega : i < ps.length))) (ha _ (rd_mem hi'))
    rcases List.mem_cons.1 hx with rfl | hx
    · omega
    · rw [List.mem_singleton.1 hx]; omega
  have e3 : (as.foldlM mk1 (List.replicate m.toNat false)).isSome = difN as := by
    rw [Bool.eq_iff_iff, mk_fold (n := m.toNat) as _ (by simp) (fun x hx => by have := ha x hx; omega)]
    unfold difN
    rw [Bool.and_eq_true, decide_eq_true_eq, decide_eq_true_eq]
    constructor
    · rintro ⟨h1, _⟩; exact ⟨fun h0 => by have := ha 0 h0; omega, h1⟩
    · rintro ⟨_, h1⟩
      refine ⟨h1, fun x _ => ?_⟩
      unfold rdb; rw [List.getD_eq_getElem?_getD, List.getElem?_replicate]; split <;> rfl
  rw [e1, List.drop_zero] at h
  have h' : (optF (adG m ps as) as.length 0 ((List.replicate m.toNat false).set 0 true, List.replicate m.toNat false)).isSome = isAdd m ps as := by
    rw [h, e3, mk_dif (m := m.toNat) (by omega) hin]; unfold isAdd; rw [Bool.and_comm]
  rw [← h']
  cases optF (adG m ps as) as.length 0 ((List.replicate m.toNat false).set 0 true, List.replicate m.toNat false) <;> rfl
def adC (m : Int) (ps : List (List Int)) (as : List Int) : Bool := decide ((as.length : Int) = (ps.length : Int)) && as.all fun x => inB x 1 (m - 1)
def addOf (m : Int) (ps : List (List Int)) (as : List Int) : Bool × Int :=
  if isMod m && ps.all (okS m) then if adC m ps as then if isSt m ps then (isAdd m ps as, 0) else (false, 1) else (false, 2) else (false, 2)
theorem adC_of {m : Int} {ps : List (List Int)} {as : List Int} (h : adC m ps as = true) : as.length = ps.length ∧ ∀ a ∈ as, 1 ≤ a ∧ a ≤ m - 1 := by
  unfold adC at h
  rw [Bool.and_eq_true, decide_eq_true_eq, List.all_eq_true] at h
  exact ⟨by omega, fun a ha => inB_of (h.2 a ha)⟩
theorem stLen {m : Int} {ps : List (List Int)} (hm : isMod m = true) (hok : ps.all (okS m) = true) (hs : isSt m ps = true) : stCode m ps = 0 := by
  unfold stCode; rw [hm, hok, hs]; rfl
theorem iAdd_D {fu : Nat} (hf : Big fu) (m : Int) {ps : List (List Int)} (hl : ps.length ≤ 4294967296) {as : List Int} (hla : as.length ≤ 4294967296) : D_impl_IsAdder fu m ps as = some (addOf m ps as) := by
  unfold D_impl_IsAdder addOf
  rw [starterCodeL_D hf m (pss := [ps]) (by simp) (by simpa using hl) (b := adC m ps as) ?_, Option.bind_some]
  · simp only [List.all_cons, List.all_nil, Bool.and_true]
    cases hm : isMod m with
    | false => rfl
    | true =>
      cases hok : ps.all (okS m) with
      | false => rfl
      | true =>
        cases hc : adC m ps as with
        | false => rfl
        | true =>
          cases hs : isSt m ps with
          | false => rfl
          | true =>
            obtain ⟨hn, hok', hl2⟩ := stCode_zero (stLen hm hok hs)
            obtain ⟨c1, c2⟩ := adC_of hc
            simp only [Bool.and_self, if_true, decide_true, Bool.not_true, bif_false, isAdder_D hf ⟨hn.1, hn.2.1⟩ (by omega) (by omega) hok' c2, Option.bind_some]
  · intro hm hok
    have hn := isMod_of hm
    unfold D_impl_IsAdder_1 adC
    by_cases e : (as.length : Int) = (ps.length : Int)
    · rw [bif_dt e, decide_eq_true e, Bool.true_and, ContainsFuncI_D hf hla (p := fun x => !inB x 1 (m - 1))]
      · rw [Option.bind_some, Option.bind_some, any_not, Bool.not_not]
      · intro x hx
        unfold D_impl_IsAdder_1_1
        rw [chk_in64 (by omega) (by omega), between_D]; rfl
    · rw [bif_df e, decide_eq_false e]; rfl
theorem sAdd_D {fu : Nat} (hf : Big fu) (m : Int) {ps : List (List Int)} (hl : ps.length ≤ 4294967296) {as : List Int} (hla : as.length ≤ 4294967296) : D_spec_IsAdder fu m ps as = some (addOf m ps as) := by
  have hf' := hf
  unfold Big at hf
  unfold D_spec_IsAdder addOf
  rw [l03Code_D hf' m hl, Option.bind_some]
  unfold stCode
  cases hm : isMod m with
  | false => rfl
  | true =>
    have hn0 := isMod_of hm
    cases hok : ps.all (okS m) with
    | false => rfl
    | true =>
      have hcode : ∀ b : Bool, (if b then (0 : Int) else 1) ≠ 2 := by intro b; cases b <;> decide
      simp only [Bool.and_self, if_true]
      rw [bif_nf (hcode _)]
      by_cases e : (as.length : Int) = (ps.length : Int)
      · rw [bif_nt e]
        rw [loop_find (fun k => (k : Int)) (fun k => inB (rd as k) 1 (m - 1)) as.length (.inl ()) (fun _ => .inr (false, 2)) (by omega) ?_ ?_ ?_ (s := 0) rfl, find_all, all_rd (p := fun x => inB x 1 (m - 1))]
        · unfold adC
          rw [decide_eq_true e, Bool.true_and]
          cases hc : as.all (fun x => inB x 1 (m - 1)) with
          | false => rfl
          | true =>
            cases hs : isSt m ps with
            | false => rfl
            | true =>
              obtain ⟨hn, hok', hl2⟩ := stCode_zero (stLen hm hok hs)
              have c2 : ∀ a ∈ as, 1 ≤ a ∧ a ≤ m - 1 := fun a ha => inB_of (List.all_eq_true.1 hc a ha)
              simp only [if_true, Option.bind_some, decide_true, Bool.not_true, bif_false, l03Adder_D hf' ⟨hn.1, hn.2.1⟩ (by omega) (by omega) hok' c2]
        all_goals first | (intro k hk hp _) | intro _
        all_goals unfold D_spec_IsAdder_s0
        · simp (disch := omega) only [bif_dt, chk_inR, chk_in64, Int.toNat_natCast, l01In_D, hp, Option.bind_some, Bool.not_true, bif_false]; rfl
        · simp (disch := omega) only [bif_dt, chk_inR, chk_in64, Int.toNat_natCast, l01In_D, hp, Option.bind_some, Bool.not_false, bif_true]
        · simp (disch := omega) only [bif_df]
      · rw [bif_nf e]
        unfold adC
        rw [decide_eq_false e]; rfl
end Go.Proofs.YtdafmafigcljkaaGreat
namespace Go.Proofs.YtdafmafigcljkaaGreat
open Go Am
set_option linter.unusedVariables false
set_option linter.unusedSimpArgs false
theorem modz {m z : Int} (hm : 0 < m) (h0 : -m < z) (h1 : z < m) : (z.tmod m + m).tmod m = if z < 0 then z + m else z := by
  by_cases h : z < 0
  · rw [if_pos h]
    have e : z.tmod m = z := by
      have : z = -(-z) := by omega
      rw [this, Int.neg_tmod, Int.tmod_eq_emod_of_nonneg (by omega), Int.emod_eq_of_lt (by omega) (by omega)]
    rw [e, mod2 hm (by omega) (by omega), if_pos (by omega)]
  · rw [if_neg h]; exact mod_eq hm (by omega) h1
theorem modp {m z : Int} (hm : 0 < m) (h0 : -m < z) (h1 : z < m) : (z + m).tmod m = if z < 0 then z + m else z := by
  rw [mod2 hm (by omega) (by omega)]
  by_cases h : z < 0
  · rw [if_pos h, if_pos (by omega)]
  · rw [if_neg h, if_neg (by omega)]; omega
def hit (m : Int) (p o : List Int) : List Int :=
  if rd o 1 - rd o 0 = rd p 1 - rd p 0 then [(rd o 0 - rd p 0 + m).tmod m] else if rd o 1 - rd o 0 = m - (rd p 1 - rd p 0) then [(rd o 1 - rd p 0 + m).tmod m] else []
theorem hit_len (m : Int) (p o : List Int) : (hit m p o).length ≤ 1 := by
  unfold hit
  split
  · exact Nat.le_refl _
  · split
    · exact Nat.le_refl _
    · exact Nat.zero_le _
theorem flat_len {f : List Int → List Int} {c : Nat} : ∀ (l : List (List Int)), (∀ x ∈ l, (f x).length ≤ c) → (l.flatMap f).length ≤ c * l.length
  | [], _ => Nat.zero_le _
  | x :: l, h => by
    have h1 := flat_len l (fun y hy => h y (List.mem_cons_of_mem _ hy))
    have h2 := h x (List.mem_cons_self ..)
    rw [List.flatMap_cons, List.length_append, List.length_cons, Nat.mul_succ]; omega
theorem flat_take {f : List Int → List Int} {l : List (List Int)} {k : Nat} (h : k < l.length) : (l.take (k + 1)).flatMap f = (l.take k).flatMap f ++ f (rw_ l k) := by
  rw [take_rw h, List.flatMap_append]; simp
theorem foldM_flat (f : List Int → List Int) : ∀ (l : List (List Int)) (s : List Bool), l.foldlM (fun met x => (f x).foldlM mk1 met) s = (l.flatMap f).foldlM mk1 s
  | [], s => rfl
  | x :: l, s => by
    rw [List.foldlM_cons, List.flatMap_cons, List.foldlM_append]
    show Option.bind _ _ = Option.bind _ _
    congr 1; funext t; exact foldM_flat f l t
theorem mk1_len : ∀ (xs : List Int) (met met' : List Bool), xs.foldlM mk1 met = some met' → met'.length = met.length
  | [], met, met', h => by obtain rfl := Option.some.inj h; rfl
  | x :: xs, met, met', h => by
    rw [List.foldlM_cons] at h
    obtain ⟨t, h1, h2⟩ := Option.bind_eq_some_iff.1 h
    rw [mk1_len xs t met' h2]
    unfold mk1 at h1
    split at h1
    · cases h1
    · obtain rfl := Option.some.inj h1; exact List.length_set
def orthL (m : Int) (ps qs : List (List Int)) : List Int := ps.flatMap fun p => qs.flatMap (hit m p)
theorem iOrth_loop {fu : Nat} (hf : Big fu) {m : Int} (hm : 3 ≤ m ∧ m ≤ 13) {ps qs : List (List Int)} (hp : ps.length ≤ 10) (hq : qs.length ≤ 10) (okp : ∀ p ∈ ps, okS m p = true) (okq : ∀ p ∈ qs, okS m p = true) :
    loopF (D_impl_AreOrthogonal_s0 fu m ps qs) fu ([], 0) = some (orthL m ps qs) := by
  unfold Big at hf
  rw [loop_seq (fun k => ((ps.take k).flatMap (fun p => qs.flatMap (hit m p)), (k : Int))) ps.length (orthL m ps qs) (by omega) ?_ ?_ (s := ([], 0)) (by simp)]
  · intro i hi
    obtain ⟨o0, o1, o2, o3⟩ := okS_of (okp _ (rw_mem hi))
    have hacc : ((ps.take i).flatMap (fun p => qs.flatMap (hit m p))).length ≤ 1000 := by
      have h1 := flat_len (f := fun p => qs.flatMap (hit m p)) (c := 10) (ps.take i) (fun p _ => by have := flat_len (f := hit m p) (c := 1) qs (fun o _ => hit_len m p o); omega)
      rw [List.length_take] at h1; omega
    unfold D_impl_AreOrthogonal_s0
    dsimp only
    rw [bif_dt (by omega), flat_take hi]
    generalize (ps.take i).flatMap (fun p => qs.flatMap (hit m p)) = acc at hacc
    have hin : loopF (D_impl_AreOrthogonal_s1 fu m ps qs (i : Int)) fu (acc, 0) = some (acc ++ qs.flatMap (hit m (rw_ ps i))) := by
      rw [loop_seq (fun k => (acc ++ (qs.take k).flatMap (hit m (rw_ ps i)), (k : Int))) qs.length (acc ++ qs.flatMap (hit m (rw_ ps i))) (by omega) ?_ ?_ (s := (acc, 0)) (by simp)]
      · intro k hk
        obtain ⟨q0, q1, q2, q3⟩ := okS_of (okq _ (rw_mem hk))
        have hl1 : (acc ++ (qs.take k).flatMap (hit m (rw_ ps i))).length ≤ 2000 := by
          have h1 := flat_len (f := hit m (rw_ ps i)) (c := 1) (qs.take k) (fun o _ => hit_len m _ o)
          rw [List.length_take] at h1
          rw [List.length_append]; omega
        rw [flat_take hk, ← List.append_assoc]
        generalize acc ++ (qs.take k).flatMap (hit m (rw_ ps i)) = acc2 at hl1
        unfold D_impl_AreOrthogonal_s1 hit
        dsimp only
        rw [bif_dt (by omega)]
        simp (disch := omega) only [chk_inR, chk_in64, Int.toNat_natCast]
        by_cases e1 : rd (rw_ qs k) 1 - rd (rw_ qs k) 0 = rd (rw_ ps i) 1 - rd (rw_ ps i) 0
        · rw [bif_dt e1, if_pos e1, chk_ne (by omega), chk_le (by omega)]; rfl
        · rw [bif_df e1, if_neg e1]
          by_cases e2 : rd (rw_ qs k) 1 - rd (rw_ qs k) 0 = m - (rd (rw_ ps i) 1 - rd (rw_ ps i) 0)
          · rw [bif_dt e2, if_pos e2, chk_ne (by omega), chk_le (by omega)]; rfl
          · rw [bif_df e2, if_neg e2, List.append_nil]; rfl
      · unfold D_impl_AreOrthogonal_s1
        simp (disch := omega) only [bif_df]
        rw [List.take_length]
    simp (disch := omega) only [chk_inR, chk_in64, Int.toNat_natCast, hin, Option.bind_some]; rfl
  · unfold D_impl_AreOrthogonal_s0
    simp (disch := omega) only [bif_df]
    rw [List.take_length]; rfl
theorem sOrth_D {fu : Nat} (hf : Big fu) {m : Int} (hm : 3 ≤ m ∧ m ≤ 13) {ps qs : List (List Int)} (hp : ps.length ≤ 10) (hq : qs.length ≤ 10) (okp : ∀ p ∈ ps, okS m p = true) (okq : ∀ p ∈ qs, okS m p = true)
    (lp : ∀ p ∈ ps, rd p 0 < rd p 1) (lq : ∀ p ∈ qs, rd p 0 < rd p 1) : D_spec_l03Orthogonal fu m ps qs = some (difN (orthL m ps qs)) := by
  unfold Big at hf
  unfold D_spec_l03Orthogonal
  rw [chk_and (by omega) (by omega), chk_inR (by omega) (by omega)]
  have hin : ∀ i, i < ps.length → ∀ met : List Bool, met.length = m.toNat → loopF (D_spec_l03Orthogonal_s1 fu m ps qs (i : Int) (rd (rw_ ps i) 1 - rd (rw_ ps i) 0)) fu (met, 0) = some (((qs.flatMap (hit m (rw_ ps i))).foldlM mk1 met).elim (.inr false) fun t => .inl t) := by
    intro i hi met hmet
    obtain ⟨o0, o1, o2, o3⟩ := okS_of (okp _ (rw_mem hi))
    have ol := lp _ (rw_mem hi)
    rw [← foldM_flat, ← optF_listR]
    refine loop_optF _ (fun _ t => t.length = m.toNat) qs.length (fun t => Sum.inl t) (Sum.inr false) (by omega) hmet ?_ ?_ ?_
    · intro k t t' hk hP hg
      refine ⟨?_, by rw [mk1_len _ _ _ hg]; exact hP⟩
      obtain ⟨q0, q1, q2, q3⟩ := okS_of (okq _ (rw_mem hk))
      have ql := lq _ (rw_mem hk)
      unfold D_spec_l03Orthogonal_s1
      dsimp only
      rw [bif_dt (by omega)]
      simp (disch := omega) only [chk_inR, chk_in64, Int.toNat_natCast]
      rw [l03Mod_D hm, Option.bind_some, mod_eq (by omega) (by omega) (by omega)]
      unfold hit at hg
      by_cases e1 : rd (rw_ qs k) 1 - rd (rw_ qs k) 0 = rd (rw_ ps i) 1 - rd (rw_ ps i) 0
      · rw [if_pos e1, List.foldlM_cons, modp (by omega) (by omega) (by omega)] at hg
        rw [bif_dt e1.symm, l03Mod_D hm, Option.bind_some, modz (by omega) (by omega) (by omega)]
        have hv : 0 ≤ (if rd (rw_ qs k) 0 - rd (rw_ ps i) 0 < 0 then rd (rw_ qs k) 0 - rd (rw_ ps i) 0 + m else rd (rw_ qs k) 0 - rd (rw_ ps i) 0) ∧ (if rd (rw_ qs k) 0 - rd (rw_ ps i) 0 < 0 then rd (rw_ qs k) 0 - rd (rw_ ps i) 0 + m else rd (rw_ qs k) 0 - rd (rw_ ps i) 0) < m := by split <;> omega
        generalize (if rd (rw_ qs k) 0 - rd (rw_ ps i) 0 < 0 then rd (rw_ qs k) 0 - rd (rw_ ps i) 0 + m else rd (rw_ qs k) 0 - rd (rw_ ps i) 0) = v at hv hg
        unfold mk1 at hg
        rw [chk_inR (by omega) (by omega)]
        generalize rdb t v.toNat = b at hg
        cases b with
        | true => cases hg
        | false =>
          obtain rfl := Option.some.inj hg
          rw [bif_false, chk_inR (by omega) (by omega)]
      · rw [if_neg e1] at hg
        rw [bif_df (fun h => e1 h.symm)]
        rw [l03Mod_D hm, Option.bind_some, modz (by omega) (by omega) (by omega), if_pos (by omega)]
        by_cases e2 : rd (rw_ qs k) 1 - rd (rw_ qs k) 0 = m - (rd (rw_ ps i) 1 - rd (rw_ ps i) 0)
        · rw [if_pos e2, List.foldlM_cons, modp (by omega) (by omega) (by omega)] at hg
          rw [bif_dt (by omega), l03Mod_D hm, Option.bind_some, modz (by omega) (by omega) (by omega)]
          have hv : 0 ≤ (if rd (rw_ qs k) 1 - rd (rw_ ps i) 0 < 0 then rd (rw_ qs k) 1 - rd (rw_ ps i) 0 + m else rd (rw_ qs k) 1 - rd (rw_ ps i) 0) ∧ (if rd (rw_ qs k) 1 - rd (rw_ ps i) 0 < 0 then rd (rw_ qs k) 1 - rd (rw_ ps i) 0 + m else rd (rw_ qs k) 1 - rd (rw_ ps i) 0) < m := by split <;> omega
          generalize (if rd (rw_ qs k) 1 - rd (rw_ ps i) 0 < 0 then rd (rw_ qs k) 1 - rd (rw_ ps i) 0 + m else rd (rw_ qs k) 1 - rd (rw_ ps i) 0) = v at hv hg
          unfold mk1 at hg
          rw [chk_inR (by omega) (by omega)]
          generalize rdb t v.toNat = b at hg
          cases b with
          | true => cases hg
          | false =>
            obtain rfl := Option.some.inj hg
            rw [bif_false, chk_inR (by omega) (by omega)]
        · rw [if_neg e2] at hg
          obtain rfl := Option.some.inj hg
          rw [bif_df (by omega)]
    · intro k t hk hP hg
      obtain ⟨q0, q1, q2, q3⟩ := okS_of (okq _ (rw_mem hk))
      have ql := lq _ (rw_mem hk)
      unfold D_spec_l03Orthogonal_s1
      dsimp only
      rw [bif_dt (by omega)]
      simp (disch := omega) only [chk_inR, chk_in64, Int.toNat_natCast]
      rw [l03Mod_D hm, Option.bind_some, mod_eq (by omega) (by omega) (by omega)]
      unfold hit at hg
      by_cases e1 : rd (rw_ qs k) 1 - rd (rw_ qs k) 0 = rd (rw_ ps i) 1 - rd (rw_ ps i) 0
      · rw [if_pos e1, List.foldlM_cons, modp (by omega) (by omega) (by omega)] at hg
        rw [bif_dt e1.symm, l03Mod_D hm, Option.bind_some, modz (by omega) (by omega) (by omega)]
        have hv : 0 ≤ (if rd (rw_ qs k) 0 - rd (rw_ ps i) 0 < 0 then rd (rw_ qs k) 0 - rd (rw_ ps i) 0 + m else rd (rw_ qs k) 0 - rd (rw_ ps i) 0) ∧ (if rd (rw_ qs k) 0 - rd (rw_ ps i) 0 < 0 then rd (rw_ qs k) 0 - rd (rw_ ps i) 0 + m else rd (rw_ qs k) 0 - rd (rw_ ps i) 0) < m := by split <;> omega
        generalize (if rd (rw_ qs k) 0 - rd (rw_ ps i) 0 < 0 then rd (rw_ qs k) 0 - rd (rw_ ps i) 0 + m else rd (rw_ qs k) 0 - rd (rw_ ps i) 0) = v at hv hg
        unfold mk1 at hg
        rw [chk_inR (by omega) (by omega)]
        generalize rdb t v.toNat = b at hg
        cases b with
        | true => rfl
        | false => cases hg
      · rw [if_neg e1] at hg
        rw [bif_df (fun h => e1 h.symm)]
        rw [l03Mod_D hm, Option.bind_some, modz (by omega) (by omega) (by omega), if_pos (by omega)]
        by_cases e2 : rd (rw_ qs k) 1 - rd (rw_ qs k) 0 = m - (rd (rw_ ps i) 1 - rd (rw_ ps i) 0)
        · rw [if_pos e2, List.foldlM_cons, modp (by omega) (by omega) (by omega)] at hg
          rw [bif_dt (by omega), l03Mod_D hm, Option.bind_some, modz (by omega) (by omega) (by omega)]
          have hv : 0 ≤ (if rd (rw_ qs k) 1 - rd (rw_ ps i) 0 < 0 then rd (rw_ qs k) 1 - rd (rw_ ps i) 0 + m else rd (rw_ qs k) 1 - rd (rw_ ps i) 0) ∧ (if rd (rw_ qs k) 1 - rd (rw_ ps i) 0 < 0 then rd (rw_ qs k) 1 - rd (rw_ ps i) 0 + m else rd (rw_ qs k) 1 - rd (rw_ ps i) 0) < m := by split <;> omega
          generalize (if rd (rw_ qs k) 1 - rd (rw_ ps i) 0 < 0 then rd (rw_ qs k) 1 - rd (rw_ ps i) 0 + m else rd (rw_ qs k) 1 - rd (rw_ ps i) 0) = v at hv hg
          unfold mk1 at hg
          rw [chk_inR (by omega) (by omega)]
          generalize rdb t v.toNat = b at hg
          cases b with
          | true => rfl
          | false => cases hg
        · rw [if_neg e2] at hg; cases hg
    · intro t hP
      unfold D_spec_l03Orthogonal_s1
      simp (disch := omega) only [bif_df]
  rw [loop_optF (fun k met => (qs.flatMap (hit m (rw_ ps k))).foldlM mk1 met) (fun _ met => met.length = m.toNat) ps.length (fun _ => .inl ()) (.inr false) (by omega) (by simp) ?_ ?_ ?_, optF_listR (fun met p => (qs.flatMap (hit m p)).foldlM mk1 met), foldM_flat (fun p => qs.flatMap (hit m p)), ← mk_dif (m := m.toNat) (by omega) (xs := orthL m ps qs) ?_]
  · unfold orthL
    cases (ps.flatMap fun p => qs.flatMap (hit m p)).foldlM mk1 ((List.replicate m.toNat false).set 0 true) <;> rfl
  · intro x hx
    obtain ⟨p, hpm, hx⟩ := List.mem_flatMap.1 hx
    obtain ⟨o, hom, hx⟩ := List.mem_flatMap.1 hx
    obtain ⟨o0, o1, o2, o3⟩ := okS_of (okp _ hpm)
    obtain ⟨q0, q1, q2, q3⟩ := okS_of (okq _ hom)
    unfold hit at hx
    split at hx
    · rw [List.mem_singleton.1 hx, modp (by omega) (by omega) (by omega)]; split <;> omega
    · split at hx
      · rw [List.mem_singleton.1 hx, modp (by omega) (by omega) (by omega)]; split <;> omega
      · exact absurd hx List.not_mem_nil
  · intro k met met' hk hP hg
    obtain ⟨o0, o1, o2, o3⟩ := okS_of (okp _ (rw_mem hk))
    have ol := lp _ (rw_mem hk)
    refine ⟨?_, by rw [mk1_len _ _ _ hg]; exact hP⟩
    unfold D_spec_l03Orthogonal_s0
    dsimp only
    rw [bif_dt (by omega)]
    simp (disch := omega) only [chk_inR, chk_in64, Int.toNat_natCast]
    rw [l03Mod_D hm, Option.bind_some, mod_eq (by omega) (by omega) (by omega), hin k hk met hP, hg]; rfl
  · intro k met hk hP hg
    obtain ⟨o0, o1, o2, o3⟩ := okS_of (okp _ (rw_mem hk))
    have ol := lp _ (rw_mem hk)
    unfold D_spec_l03Orthogonal_s0
    dsimp only
    rw [bif_dt (by omega)]
    simp (disch := omega) only [chk_inR, chk_in64, Int.toNat_natCast]
    rw [l03Mod_D hm, Option.bind_some, mod_eq (by omega) (by omega) (by omega), hin k hk met hP, hg]; rfl
  · intro met hP
    unfold D_spec_l03Orthogonal_s0
    simp (disch := omega) only [bif_df]
def orthOf (m : Int) (ps qs : List (List Int)) : Bool × Int :=
  if isMod m && (ps.all (okS m) && qs.all (okS m)) then if isSt m ps && isSt m qs then (difN (orthL m ps qs), 0) else (false, 1) else (false, 2)
theorem orth_i {fu : Nat} (hf : Big fu) (m : Int) {ps qs : List (List Int)} (hl : ps.length ≤ 4294967296) (hl2 : qs.length ≤ 4294967296) : D_impl_AreOrthogonal fu m ps qs = some (orthOf m ps qs) := by
  unfold D_impl_AreOrthogonal orthOf
  rw [starterCodeL_D hf m (pss := [ps, qs]) (by simp) (by simp; exact ⟨hl, hl2⟩) (b := true) (fun _ _ => rfl), Option.bind_some]
  simp only [List.all_cons, List.all_nil, Bool.and_true]
  cases hm : isMod m with
  | false => rfl
  | true =>
    cases hok : ps.all (okS m) with
    | false => rfl
    | true =>
      cases hok2 : qs.all (okS m) with
      | false => rfl
      | true =>
        cases hs : isSt m ps with
        | false => rfl
        | true =>
          cases hs2 : isSt m qs with
          | false => rfl
          | true =>
            obtain ⟨hn, hok', hl3⟩ := stCode_zero (stLen hm hok hs)
            obtain ⟨_, hok2', hl4⟩ := stCode_zero (stLen hm hok2 hs2)
            have hlen : (orthL m ps qs).length ≤ 4294967296 := by
              have h1 := flat_len (f := fun p => qs.flatMap (hit m p)) (c := 10) ps (fun p _ => by have := flat_len (f := hit m p) (c := 1) qs (fun o _ => hit_len m p o); omega)
              unfold orthL; omega
            simp only [Bool.and_self, if_true, decide_true, Bool.not_true, bif_false, iOrth_loop hf ⟨hn.1, hn.2.1⟩ (by omega) (by omega) hok' hok2', areDifferent_D hf hlen, Option.bind_some]
theorem orth_s {fu : Nat} (hf : Big fu) (m : Int) {ps qs : List (List Int)} (hl : ps.length ≤ 4294967296) (hl2 : qs.length ≤ 4294967296) : D_spec_AreOrthogonal fu m ps qs = some (orthOf m ps qs) := by
  unfold D_spec_AreOrthogonal orthOf
  rw [l03Modulus_D, Option.bind_some]
  cases hm : isMod m with
  | false => rfl
  | true =>
    have hn := isMod_of hm
    rw [l03Lists_D hf ⟨hn.1, hn.2.1⟩ hl, l03Lists_D hf ⟨hn.1, hn.2.1⟩ hl2]
    cases hok : ps.all (okS m) with
    | false => rfl
    | true =>
      cases hok2 : qs.all (okS m) with
      | false => rfl
      | true =>
        rw [l03Is_D hf hn hl (List.all_eq_true.1 hok), l03Is_D hf hn hl2 (List.all_eq_true.1 hok2)]
        cases hs : isSt m ps with
        | false => rfl
        | true =>
          cases hs2 : isSt m qs with
          | false => rfl
          | true =>
            obtain ⟨_, hok', hl3⟩ := stCode_zero (stLen hm hok hs)
            obtain ⟨_, hok2', hl4⟩ := stCode_zero (stLen hm hok2 hs2)
            simp only [Bool.and_self, if_true, Bool.not_true, bif_false, Option.bind_some, sOrth_D hf ⟨hn.1, hn.2.1⟩ (by omega : ps.length ≤ 10) (by omega : qs.length ≤ 10) hok' hok2' (isSt_ord hs hok') (isSt_ord hs2 hok2')]
end Go.Proofs.YtdafmafigcljkaaGreat
namespace Go.Proofs.YtdafmafigcljkaaGreat
open Go Am
set_option linter.unusedVariables false
set_option linter.unusedSimpArgs false
def fs {A : Type} (t : Nat → Option A) : Nat → Nat → Option A
  | _, 0 => none
  | k, m + 1 => match t k with
    | some a => some a
    | none => fs t (k + 1) m
theorem loop_fs {S R A : Type} {step : S → Option (Lo S R)} (f : Nat → S) (t : Nat → Option A) (n : Nat) (rT : R) (rF : A → R) (hgo : ∀ k, k < n → t k = none → step (f k) = some (.go (f (k + 1)))) (hF : ∀ k a, k < n → t k = some a → step (f k) = some (.out (rF a))) (hT : step (f n) = some (.out rT)) :
    ∀ (m k fu : Nat), k + m = n → m < fu → loopF step fu (f k) = some (match fs t k m with | some a => rF a | none => rT)
  | 0, k, fu + 1, h, _ => by
    obtain rfl : k = n := by omega
    exact loop_out hT
  | m + 1, k, fu + 1, h, hf => by
    unfold fs
    cases e : t k with
    | none => rw [loop_go (hgo k (by omega) e)]; exact loop_fs f t n rT rF hgo hF hT m (k + 1) fu (by omega) (by omega)
    | some a => exact loop_out (hF k a (by omega) e)
  | 0, _, 0, _, hf => absurd hf (Nat.not_lt_zero _)
  | _ + 1, _, 0, _, hf => absurd hf (Nat.not_lt_zero _)
theorem fs_of {A : Type} {t : Nat → Option A} {p : A → Prop} : ∀ {m k : Nat} {a : A}, (∀ j b, t j = some b → p b) → fs t k m = some a → p a
  | 0, k, a, h, e => by cases e
  | m + 1, k, a, h, e => by
    unfold fs at e
    cases e1 : t k with
    | none => rw [e1] at e; exact fs_of h e
    | some b => rw [e1] at e; cases e; exact h k _ e1
def fAd (m : Int) (ps : List (List Int)) : Nat → List Int → Option (List Int)
  | 0, as => some as
  | k + 1, as => fs (fun j => if isAdd m ps (as ++ [(j : Int) + 1]) then fAd m ps k (as ++ [(j : Int) + 1]) else none) 0 (m - 1).toNat
theorem fAd_len {m : Int} {ps : List (List Int)} : ∀ {k : Nat} {as l : List Int}, fAd m ps k as = some l → l.length = as.length + k
  | 0, as, l, h => by cases h; rfl
  | k + 1, as, l, h => by
    unfold fAd at h
    refine fs_of (p := fun l => l.length = as.length + (k + 1)) (fun j b hb => ?_) h
    split at hb
    · have := fAd_len hb
      rw [List.length_append] at this; simp at this; omega
    · cases hb
theorem ha_app {m : Int} {as : List Int} (ha : ∀ a ∈ as, 1 ≤ a ∧ a ≤ m - 1) {j : Nat} (hj : j < (m - 1).toNat) : ∀ a ∈ as ++ [(j : Int) + 1], 1 ≤ a ∧ a ≤ m - 1 := fun a h => by
  rcases List.mem_append.1 h with h | h
  · exact ha a h
  · rw [List.mem_singleton.1 h]; omega
theorem iFirst {m : Int} (hm : 3 ≤ m ∧ m ≤ 13) {ps : List (List Int)} (h100 : ps.length ≤ 100) (h0 : 0 < ps.length) (hok : ∀ p ∈ ps, okS m p = true) : ∀ (k : Nat) (as : List Int) (fu : Nat), as.length + k = ps.length → (∀ a ∈ as, 1 ≤ a ∧ a ≤ m - 1) → 8589934592 + k < fu →
    D_impl_firstAdder (fu + 1) m ps as = some ((fAd m ps k as).getD []) := by
  intro k
  induction k with
  | zero =>
    intro as fu hl ha hf
    unfold D_impl_firstAdder fAd
    rw [bif_dt (by omega), chk_t (by omega)]; rfl
  | succ k ih =>
    intro as fu hl ha hf
    have hB : Big fu := by unfold Big; omega
    unfold D_impl_firstAdder
    rw [bif_df (by omega)]
    obtain ⟨gu, rfl⟩ : ∃ g, fu = g + 1 := ⟨fu - 1, by omega⟩
    have key := loop_fs (step := D_impl_firstAdder_s0 (D_impl_firstAdder (gu + 1)) (gu + 1) m ps as) (fun k => (k : Int) + 1) (fun j => if isAdd m ps (as ++ [(j : Int) + 1]) then fAd m ps k (as ++ [(j : Int) + 1]) else none) (m - 1).toNat (.inl ()) (fun a => .inr a) ?_ ?_ ?_ (m - 1).toNat 0 (gu + 1) (by omega) (by omega)
    · have e0 : ((0 : Nat) : Int) + 1 = 1 := rfl
      rw [e0] at key
      rw [key]
      conv => rhs; unfold fAd
      cases fs (fun j => if isAdd m ps (as ++ [(j : Int) + 1]) then fAd m ps k (as ++ [(j : Int) + 1]) else none) 0 (m - 1).toNat <;> rfl
    · intro j hj hn
      have hl2 : (as ++ [(j : Int) + 1]).length = as.length + 1 := by simp
      unfold D_impl_firstAdder_s0 D_slices_Clone_Sint64_int64
      rw [bif_dt (by omega)]
      simp only [chk_t (by omega : 0 + as.length ≤ 4294967296), bif_dt, bif_df, Option.bind_some]
      rw [chk_le (by omega), isAdder_D hB hm (by omega) h100 hok (ha_app ha hj), Option.bind_some]
      cases hA : isAdd m ps (as ++ [(j : Int) + 1]) with
      | false => rw [bif_false, chk_in64 (by omega) (by omega)]; rfl
      | true =>
        rw [hA, if_pos rfl] at hn
        rw [bif_true, ih _ gu (by omega) (ha_app ha hj) (by omega), hn, Option.bind_some]
        show (bif !decide (([] : List Int) = []) then _ else _) = _
        rw [bif_nt rfl, chk_in64 (by omega) (by omega)]; rfl
    · intro j l hj hn
      have hl2 : (as ++ [(j : Int) + 1]).length = as.length + 1 := by simp
      unfold D_impl_firstAdder_s0 D_slices_Clone_Sint64_int64
      rw [bif_dt (by omega)]
      simp only [chk_t (by omega : 0 + as.length ≤ 4294967296), bif_dt, bif_df, Option.bind_some]
      rw [chk_le (by omega), isAdder_D hB hm (by omega) h100 hok (ha_app ha hj), Option.bind_some]
      cases hA : isAdd m ps (as ++ [(j : Int) + 1]) with
      | false => rw [hA] at hn; cases hn
      | true =>
        rw [hA, if_pos rfl] at hn
        have hll := fAd_len hn
        have hpos : 0 < l.length := by omega
        have hne : l ≠ [] := List.length_pos_iff.1 hpos
        rw [bif_true, ih _ gu (by omega) (ha_app ha hj) (by omega), hn, Option.bind_some]
        rw [Option.getD_some]
        rw [bif_nf hne, chk_t hpos]
    · unfold D_impl_firstAdder_s0
      rw [bif_df (by omega)]
theorem sFirst {m : Int} (hm : 3 ≤ m ∧ m ≤ 13) {ps : List (List Int)} (h100 : ps.length ≤ 100) (hok : ∀ p ∈ ps, okS m p = true) : ∀ (k : Nat) (as : List Int) (fu : Nat), as.length + k = ps.length → (∀ a ∈ as, 1 ≤ a ∧ a ≤ m - 1) → 8589934592 + k < fu →
    D_spec_l03FindAdder (fu + 1) m ps as = some (match fAd m ps k as with | some l => (l, true) | none => ([], false)) := by
  intro k
  induction k with
  | zero =>
    intro as fu hl ha hf
    unfold D_spec_l03FindAdder fAd
    rw [bif_dt (by omega)]
  | succ k ih =>
    intro as fu hl ha hf
    have hB : Big fu := by unfold Big; omega
    unfold D_spec_l03FindAdder
    rw [bif_df (by omega)]
    obtain ⟨gu, rfl⟩ : ∃ g, fu = g + 1 := ⟨fu - 1, by omega⟩
    have key := loop_fs (step := D_spec_l03FindAdder_s0 (D_spec_l03FindAdder (gu + 1)) (gu + 1) m ps as) (fun k => (k : Int) + 1) (fun j => if isAdd m ps (as ++ [(j : Int) + 1]) then fAd m ps k (as ++ [(j : Int) + 1]) else none) (m - 1).toNat (.inl ()) (fun a => .inr (a, true)) ?_ ?_ ?_ (m - 1).toNat 0 (gu + 1) (by omega) (by omega)
    · have e0 : ((0 : Nat) : Int) + 1 = 1 := rfl
      rw [e0] at key
      rw [key]
      conv => rhs; unfold fAd
      cases fs (fun j => if isAdd m ps (as ++ [(j : Int) + 1]) then fAd m ps k (as ++ [(j : Int) + 1]) else none) 0 (m - 1).toNat <;> rfl
    · intro j hj hn
      have hl2 : (as ++ [(j : Int) + 1]).length = as.length + 1 := by simp
      unfold D_spec_l03FindAdder_s0 D_spec_l01Own
      rw [bif_dt (by omega)]
      simp only [chk_t (by omega : 0 + as.length ≤ 4294967296), Option.bind_some]
      rw [chk_le (by omega), l03Adder_D hB hm (by omega) h100 hok (ha_app ha hj), Option.bind_some]
      cases hA : isAdd m ps (as ++ [(j : Int) + 1]) with
      | false => rw [Bool.not_false, bif_true, chk_in64 (by omega) (by omega)]; rfl
      | true =>
        rw [hA, if_pos rfl] at hn
        rw [Bool.not_true, bif_false, ih _ gu (by omega) (ha_app ha hj) (by omega), hn, Option.bind_some]
        show (bif false then _ else _) = _
        rw [bif_false, chk_in64 (by omega) (by omega)]; rfl
    · intro j l hj hn
      have hl2 : (as ++ [(j : Int) + 1]).length = as.length + 1 := by simp
      unfold D_spec_l03FindAdder_s0 D_spec_l01Own
      rw [bif_dt (by omega)]
      simp only [chk_t (by omega : 0 + as.length ≤ 4294967296), Option.bind_some]
      rw [chk_le (by omega), l03Adder_D hB hm (by omega) h100 hok (ha_app ha hj), Option.bind_some]
      cases hA : isAdd m ps (as ++ [(j : Int) + 1]) with
      | false => rw [hA] at hn; cases hn
      | true =>
        rw [hA, if_pos rfl] at hn
        rw [Bool.not_true, bif_false, ih _ gu (by omega) (ha_app ha hj) (by omega), hn, Option.bind_some]; rfl
    · unfold D_spec_l03FindAdder_s0
      rw [bif_df (by omega)]
def firstOf (m : Int) (ps : List (List Int)) : List Int × Int := if stCode m ps = 0 then (match fAd m ps ps.length [] with | some l => (l, 0) | none => ([], 4)) else ([], stCode m ps)
theorem first_eqs {fu : Nat} (hf : 8589934692 < fu) (m : Int) {ps : List (List Int)} (hl : ps.length ≤ 4294967296) : D_spec_FirstAdder fu m ps = some (firstOf m ps) ∧ D_impl_FirstAdder fu m ps = some (firstOf m ps) := by
  have hB : Big fu := by unfold Big; omega
  unfold D_spec_FirstAdder D_impl_FirstAdder firstOf
  rw [l03Code_D hB m hl, starterCode_D hB m hl, Option.bind_some, Option.bind_some]
  by_cases h : stCode m ps = 0
  · obtain ⟨hn, hok, hl2⟩ := stCode_zero h
    obtain ⟨gu, rfl⟩ : ∃ g, fu = g + 1 := ⟨fu - 1, by omega⟩
    rw [bif_nt h, bif_nt h, if_pos h, sFirst ⟨by omega, by omega⟩ (by omega) hok ps.length [] gu (by simp) (by simp) (by omega), iFirst ⟨by omega, by omega⟩ (by omega) (by omega) hok ps.length [] gu (by simp) (by simp) (by omega), Option.bind_some, Option.bind_some]
    cases e : fAd m ps ps.length [] with
    | none => exact ⟨rfl, rfl⟩
    | some l =>
      have hll := fAd_len e
      have hne : l ≠ [] := List.length_pos_iff.1 (by omega)
      refine ⟨rfl, ?_⟩
      show (bif decide (l = []) then _ else _) = _
      rw [bif_df hne]; rfl
  · rw [bif_nf h, bif_nf h, if_neg h]; exact ⟨rfl, rfl⟩
theorem firstOf_len (m : Int) (ps : List (List Int)) : (firstOf m ps).1.length ≤ 6 := by
  unfold firstOf
  split
  · rename_i h
    obtain ⟨hn, hok, hl2⟩ := stCode_zero h
    cases e : fAd m ps ps.length [] with
    | none => exact Nat.zero_le _
    | some l =>
      have hll := fAd_len e
      show l.length ≤ 6
      simp at hll; omega
  · exact Nat.zero_le _
end Go.Proofs.YtdafmafigcljkaaGreat
