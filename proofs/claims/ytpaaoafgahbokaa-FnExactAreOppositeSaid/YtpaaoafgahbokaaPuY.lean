
/-
  AddRound, OpponentsOf, RoundsBetween: the laws. Plain Lean, no program, no condition.
-/
import Derived.Test.YtpaaoafgahbokaaPuN
import Derived.Test.YtpaaoafgahbokaaDY
namespace Go.Proofs.Ytpaaoafgahbokaa
open Go Am
set_option linter.unusedVariables false
set_option linter.unusedSimpArgs false
/-! OpponentsOf -/
theorem l01Teams_D {fu : Nat} (hf : Big fu) (n : Int) {rs : List (List Int)} (hA : All 14 rs) (hl : rs.length ≤ 4294967296) {as : List Int} (ha : as.length ≤ 100) : D_spec_l01Teams fu n rs as = some (if isSch n rs then if as.all (fun a => inB a 0 (n - 1)) then 0 else 2 else 1) := by
  have hf' := hf
  unfold Big at hf
  unfold D_spec_l01Teams
  rw [l01Is_D hf' n hA hl, Option.bind_some]
  cases h : isSch n rs with
  | false => rfl
  | true =>
    obtain ⟨hn, h40⟩ := isSch_of h
    rw [Bool.not_true, bif_false]
    rw [loop_find (fun k => (k : Int)) (fun k => inB (rd as k) 0 (n - 1)) as.length (.inl ()) (fun _ => .inr 2) (by omega) ?_ ?_ ?_ (s := 0) rfl]
    · rw [← all_rd (p := fun a => inB a 0 (n - 1))]
      by_cases h : firstNot (fun k => inB (rd as k) 0 (n - 1)) as.length < as.length
      · rw [if_pos h, if_pos rfl, if_neg (fun h' => all_range.1 h' h)]; rfl
      · rw [if_neg h, if_pos rfl, if_pos (all_range.2 h)]; rfl
    all_goals first | (intro k hk hp _) | intro _
    all_goals unfold D_spec_l01Teams_s0
    · simp (disch := omega) only [chk_inR, chk_in64, bif_dt, Int.toNat_natCast, l01In_D, hp, Option.bind_some, Bool.not_true, bif_false]; rfl
    · simp (disch := omega) only [chk_inR, chk_in64, bif_dt, Int.toNat_natCast, l01In_D, hp, Option.bind_some, Bool.not_false, bif_true]
    · simp (disch := omega) only [bif_df]
def opp1 (t : Int) (r : List Int) : Int := if rd r t.toNat = t then -1 else rd r t.toNat
def oppsOf (n : Int) (rs : List (List Int)) (t : Int) : List Int × Int := if isSch n rs then if inB t 0 (n - 1) then (rs.map (opp1 t), 0) else ([], 2) else ([], 1)
theorem map_take_rw {f : List Int → Int} {rs : List (List Int)} {k : Nat} (h : k < rs.length) : (rs.take k).map f ++ [f (rw_ rs k)] = (rs.take (k + 1)).map f := by rw [take_rw h, List.map_append]; rfl
theorem map_take_len {f : List Int → Int} {rs : List (List Int)} {k : Nat} (h : k < rs.length) : ((rs.take k).map f).length = k := by simp; omega
theorem hasTeam_D {fu : Nat} {n : Int} (hn : 2 ≤ n ∧ n ≤ 14) (rs : List (List Int)) (t : Int) : D_impl_Schedule_hasTeam fu n rs t = some (inB t 0 (n - 1)) := by
  unfold D_impl_Schedule_hasTeam
  rw [chk_in64 (by omega) (by omega), between_D]; rfl
theorem opps_len (n : Int) (rs : List (List Int)) (t : Int) : (oppsOf n rs t).1.length ≤ 40 := by
  unfold oppsOf
  split
  · rename_i h
    obtain ⟨hn, h40⟩ := isSch_of h
    split
    · simp; omega
    · simp
  · simp
/-! RoundsBetween -/
def btw (rs : List (List Int)) (a b : Int) (k : Nat) : List Int := ((List.range k).filter fun (i : Nat) => decide (rd (rw_ rs i) a.toNat = b)).map fun (i : Nat) => (i : Int)
theorem btw_succ (rs : List (List Int)) (a b : Int) (k : Nat) : btw rs a b (k + 1) = if rd (rw_ rs k) a.toNat = b then btw rs a b k ++ [(k : Int)] else btw rs a b k := by
  unfold btw
  rw [List.range_succ, List.filter_append, List.map_append]
  by_cases h : rd (rw_ rs k) a.toNat = b <;> simp [h]
theorem btw_len (rs : List (List Int)) (a b : Int) (k : Nat) : (btw rs a b k).length ≤ k := by
  unfold btw; rw [List.length_map]; exact Nat.le_trans (List.length_filter_le ..) (by simp)
def btwOf (n : Int) (rs : List (List Int)) (a b : Int) : List Int × Int := if isSch n rs then if inB a 0 (n - 1) && (inB b 0 (n - 1) && !decide (a = b)) then (btw rs a b rs.length, 0) else ([], 2) else ([], 1)
theorem btwOf_len (n : Int) (rs : List (List Int)) (a b : Int) : (btwOf n rs a b).1.length ≤ 40 := by
  unfold btwOf
  split
  · rename_i h
    obtain ⟨hn, h40⟩ := isSch_of h
    split
    · have := btw_len rs a b rs.length; show (btw _ _ _ _).length ≤ 40; omega
    · simp
  · simp
end Go.Proofs.Ytpaaoafgahbokaa

