/-
  IsAdder, AreOrthogonal: what program and reference compute, and the laws. Plain Lean, no program, no condition.
-/
import Derived.Test.YtdafmafigcljkaaDMb
import Derived.Test.YtdafmafigcljkaaPuJ
import Derived.Test.YtdafmafigcljkaaPuD
namespace Go.Proofs.Ytdafmafigcljkaa
open Go Am
set_option linter.unusedVariables false
set_option linter.unusedSimpArgs false

theorem rw3_mem {l : List (List (List Int))} {k : Nat} (h : k < l.length) : rw3 l k ∈ l := by
  unfold rw3; rw [List.getD_eq_getElem?_getD, List.getElem?_eq_getElem h]; exact List.getElem_mem h
theorem rw3_of {l : List (List (List Int))} {r : List (List Int)} (h : r ∈ l) : ∃ k, k < l.length ∧ rw3 l k = r := by
  obtain ⟨k, hk, rfl⟩ := List.getElem_of_mem h
  exact ⟨k, hk, by simp [rw3, List.getD_eq_getElem?_getD, List.getElem?_eq_getElem hk]⟩
theorem all_rw3 {l : List (List (List Int))} {p : List (List Int) → Bool} : (List.range l.length).all (fun k => p (rw3 l k)) = l.all p := by
  rw [Bool.eq_iff_iff, List.all_eq_true, List.all_eq_true]
  constructor
  · intro h r hr
    obtain ⟨k, hk, rfl⟩ := rw3_of hr
    exact h k (List.mem_range.2 hk)
  · intro h k hk
    exact h _ (rw3_mem (List.mem_range.1 hk))
theorem find_all {n : Nat} {p : Nat → Bool} {R : Type} {a b : R} : (if firstNot p n < n then b else a) = if (List.range n).all p then a else b := by
  by_cases h : firstNot p n < n
  · rw [if_pos h, if_neg (fun h' => all_range.1 h' h)]
  · rw [if_neg h, if_pos (all_range.2 h)]
theorem starterCodeL_D {fu : Nat} (hf : Big fu) (m : Int) {pss : List (List (List Int))} (hn : pss.length ≤ 10) (hl : ∀ ps ∈ pss, ps.length ≤ 4294967296) {q : Unit → Option Bool} {b : Bool} (hq : isMod m = true → pss.all (fun ps => ps.all (okS m)) = true → q () = some b) :
    D_impl_starterCode fu m q pss = some (if isMod m && pss.all (fun ps => ps.all (okS m)) then if b then if pss.all (isSt m) then 0 else 1 else 2 else 2) := by
  have hf' := hf
  unfold Big at hf
  unfold D_impl_starterCode
  rw [isModulus_D, Option.bind_some]
  cases hm : isMod m with
  | false => rfl
  | true =>
    have hn2 := isMod_of hm
    rw [Bool.not_true, bif_false, Bool.true_and]
    rw [loop_find (fun k => (k : Int)) (fun k => (rw3 pss k).all (okS m)) pss.length (.inl ()) (fun _ => .inr 2) (by omega) ?_ ?_ ?_ (s := 0) rfl]
    · rw [find_all, all_rw3 (p := fun ps => ps.all (okS m))]
      cases hok : pss.all (fun ps => ps.all (okS m)) with
      | false => rfl
      | true =>
        have hok' := hok
        rw [List.all_eq_true] at hok'
        simp only [if_true, Option.bind_some, hq hm hok]
        cases b with
        | false => rfl
        | true =>
          simp only [Bool.not_true, bif_false, if_true]
          rw [loop_find (fun k => (k : Int)) (fun k => isSt m (rw3 pss k)) pss.length (.inl ()) (fun _ => .inr 1) (by omega) ?_ ?_ ?_ (s := 0) rfl]
          · rw [find_all, all_rw3]
            cases pss.all (isSt m) <;> rfl
          all_goals first | (intro k hk hp _) | intro _
          all_goals unfold D_impl_starterCode_s1
          · have := isStarter_D hf' (m := m) ⟨hn2.1, hn2.2.1⟩ (hl _ (rw3_mem hk)) (List.all_eq_true.1 (hok' _ (rw3_mem hk)))
            simp (disch := omega) only [bif_dt, chk_inR, chk_in64, Int.toNat_natCast, this, hp, Option.bind_some, Bool.not_true, bif_false]; rfl
          · have := isStarter_D hf' (m := m) ⟨hn2.1, hn2.2.1⟩ (hl _ (rw3_mem hk)) (List.all_eq_true.1 (hok' _ (rw3_mem hk)))
            simp (disch := omega) only [bif_dt, chk_inR, chk_in64, Int.toNat_natCast, this, hp, Option.bind_some, Bool.not_false, bif_true]
          · simp (disch := omega) only [bif_df]
    all_goals first | (intro k hk hp _) | intro _
    all_goals unfold D_impl_starterCode_s0
    · have := arePairs_D hf' (m := m) ⟨hn2.1, hn2.2.1⟩ (hl _ (rw3_mem hk))
      simp (disch := omega) only [bif_dt, chk_inR, chk_in64, Int.toNat_natCast, this, hp, Option.bind_some, Bool.not_true, bif_false]; rfl
    · have := arePairs_D hf' (m := m) ⟨hn2.1, hn2.2.1⟩ (hl _ (rw3_mem hk))
      simp (disch := omega) only [bif_dt, chk_inR, chk_in64, Int.toNat_natCast, this, hp, Option.bind_some, Bool.not_false, bif_true]
    · simp (disch := omega) only [bif_df]
theorem isSt_ord {m : Int} {ps : List (List Int)} (h : isSt m ps = true) (hok : ∀ p ∈ ps, okS m p = true) : ∀ p ∈ ps, rd p 0 < rd p 1 := by
  unfold isSt at h
  rw [Bool.and_eq_true, List.all_eq_true] at h
  intro p hp
  obtain ⟨k, hk, rfl⟩ := rw_of hp
  obtain ⟨_, _, _, o3⟩ := okS_of (hok _ hp)
  have := h.1 k (List.mem_range.2 hk)
  unfold ord sy sx at this
  rw [Bool.and_eq_true, Bool.not_eq_true', decide_eq_false_iff_not] at this
  omega

/-! adders -/
def adX (m : Int) (p : List Int) (a : Int) : Int := (rd p 0 + a).tmod m
def adY (m : Int) (p : List Int) (a : Int) : Int := (rd p 1 + a).tmod m
def adL (m : Int) (ps : List (List Int)) (as : List Int) (k : Nat) : List Int := (List.range k).flatMap fun i => [adX m (rw_ ps i) (rd as i), adY m (rw_ ps i) (rd as i)]
theorem adL_succ (m : Int) (ps : List (List Int)) (as : List Int) (k : Nat) : adL m ps as (k + 1) = adL m ps as k ++ [adX m (rw_ ps k) (rd as k), adY m (rw_ ps k) (rd as k)] := by
  unfold adL; rw [List.range_succ, List.flatMap_append]; simp
theorem adL_len (m : Int) (ps : List (List Int)) (as : List Int) : ∀ k, (adL m ps as k).length = 2 * k
  | 0 => rfl
  | k + 1 => by rw [adL_succ, List.length_append, adL_len m ps as k]; simp; omega
theorem ad_in {m : Int} {p : List Int} {a : Int} (hm : 3 ≤ m ∧ m ≤ 13) (hp : okS m p = true) (ha : 1 ≤ a ∧ a ≤ m - 1) : (0 ≤ adX m p a ∧ adX m p a < m) ∧ (0 ≤ adY m p a ∧ adY m p a < m) ∧ adX m p a ≠ adY m p a := by
  obtain ⟨o0, o1, o2, o3⟩ := okS_of hp
  unfold adX adY
  rw [mod2 (by omega) (by omega) (by omega), mod2 (by omega) (by omega) (by omega)]
  split <;> split <;> omega
def isAdd (m : Int) (ps : List (List Int)) (as : List Int) : Bool := difN as && difN (adL m ps as as.length)
def adG (m : Int) (ps : List (List Int)) (as : List Int) (k : Nat) (s : List Bool × List Bool) : Option (List Bool × List Bool) :=
  if rdb s.1 (adX m (rw_ ps k) (rd as k)).toNat || (rdb s.1 (adY m (rw_ ps k) (rd as k)).toNat || rdb s.2 (rd as k).toNat) then none
  else some ((s.1.set (adX m (rw_ ps k) (rd as k)).toNat true).set (adY m (rw_ ps k) (rd as k)).toNat true, s.2.set (rd as k).toNat true)
theorem adG_fold {m : Int} (hm : 3 ≤ m ∧ m ≤ 13) {ps : List (List Int)} {as : List Int} (hl : as.length ≤ ps.length) (hok : ∀ p ∈ ps, okS m p = true) (ha : ∀ a ∈ as, 1 ≤ a ∧ a ≤ m - 1) :
    ∀ (j k : Nat) (s : List Bool × List Bool), k + j = as.length → s.1.length = m.toNat → s.2.length = m.toNat →
      (optF (adG m ps as) j k s).isSome = ((((List.range' k j).flatMap fun i => [adX m (rw_ ps i) (rd as i), adY m (rw_ ps i) (rd as i)]).foldlM mk1 s.1).isSome && ((as.drop k).foldlM mk1 s.2).isSome)
  | 0, k, s, h, _, _ => by rw [List.drop_of_length_le (by omega)]; rfl
  | j + 1, k, s, h, h1, h2 => by
    have hk : k < as.length := by omega
    obtain ⟨i1, i2, i3⟩ := ad_in hm (hok _ (rw_mem (by omega : k < ps.length))) (ha _ (rd_mem hk))
    have ia := ha _ (rd_mem hk)
    have hd : as.drop k = rd as k :: as.drop (k + 1) := by
      rw [List.drop_eq_getElem_cons hk, rd_get]
    rw [optF_succ, List.range'_succ, List.flatMap_cons, hd, List.foldlM_cons, List.cons_append, List.foldlM_cons, List.cons_append, List.nil_append]
    have hy : ∀ met : List Bool, met.length = m.toNat → rdb (met.set (adX m (rw_ ps k) (rd as k)).toNat true) (adY m (rw_ ps k) (rd as k)).toNat = rdb met (adY m (rw_ ps k) (rd as k)).toNat := fun met hmet => by
      rw [rdb_set (by omega), if_neg (by omega)]
    unfold adG
    generalize hb1 : rdb s.1 (adX m (rw_ ps k) (rd as k)).toNat = b1
    generalize hb2 : rdb s.1 (adY m (rw_ ps k) (rd as k)).toNat = b2
    generalize hb3 : rdb s.2 (rd as k).toNat = b3
    have e1 : mk1 s.1 (adX m (rw_ ps k) (rd as k)) = if b1 then none else some (s.1.set (adX m (rw_ ps k) (rd as k)).toNat true) := by unfold mk1; rw [hb1]
    have e3 : mk1 s.2 (rd as k) = if b3 then none else some (s.2.set (rd as k).toNat true) := by unfold mk1; rw [hb3]
    rw [e1, e3]
    cases b1 with
    | true => rfl
    | false =>
      have e2 : mk1 (s.1.set (adX m (rw_ ps k) (rd as k)).toNat true) (adY m (rw_ ps k) (rd as k)) = if b2 then none else some ((s.1.set (adX m (rw_ ps k) (rd as k)).toNat true).set (adY m (rw_ ps k) (rd as k)).toNat true) := by unfold mk1; rw [hy _ h1, hb2]
      show Option.isSome (Option.bind _ _) = (Option.isSome (Option.bind (mk1 (s.1.set (adX m (rw_ ps k) (rd as k)).toNat true) (adY m (rw_ ps k) (rd as k))) _) && _)
      rw [e2]
      cases b2 with
      | true => rfl
      | false =>
        cases b3 with
        | true =>
          show false = (_ && false)
          rw [Bool.and_false]
        | false => exact adG_fold hm hl hok ha j (k + 1) _ (by omega) (by simp; exact h1) (by simp; exact h2)
def adC (m : Int) (ps : List (List Int)) (as : List Int) : Bool := decide ((as.length : Int) = (ps.length : Int)) && as.all fun x => inB x 1 (m - 1)
def addOf (m : Int) (ps : List (List Int)) (as : List Int) : Bool × Int :=
  if isMod m && ps.all (okS m) then if adC m ps as then if isSt m ps then (isAdd m ps as, 0) else (false, 1) else (false, 2) else (false, 2)
theorem adC_of {m : Int} {ps : List (List Int)} {as : List Int} (h : adC m ps as = true) : as.length = ps.length ∧ ∀ a ∈ as, 1 ≤ a ∧ a ≤ m - 1 := by
  unfold adC at h
  rw [Bool.and_eq_true, decide_eq_true_eq, List.all_eq_true] at h
  exact ⟨by omega, fun a ha => inB_of (h.2 a ha)⟩
theorem stLen {m : Int} {ps : List (List Int)} (hm : isMod m = true) (hok : ps.all (okS m) = true) (hs : isSt m ps = true) : stCode m ps = 0 := by
  unfold stCode; rw [hm, hok, hs]; rfl
end Go.Proofs.Ytdafmafigcljkaa

