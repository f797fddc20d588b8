/-
  TypesOf and IsPerfect: what program and reference compute, and the laws. Plain Lean, no program, no condition.
-/
import Derived.Test.YtdafmafigcljkaaDTd
import Derived.Test.YtdafmafigcljkaaPuB
namespace Go.Proofs.Ytdafmafigcljkaa
open Go Am
set_option linter.unusedVariables false
set_option linter.unusedSimpArgs false

theorem sch_two {n : Int} {rs : List (List Int)} (h : isSch n rs = true) {i j : Nat} (hi : i < rs.length) (hj : j < rs.length) : two n (rw_ rs i) (rw_ rs j) = true := by
  unfold isSch at h
  rw [Bool.and_eq_true, List.all_eq_true] at h
  unfold two
  rw [h.2 _ (rw_mem hi), h.2 _ (rw_mem hj)]; rfl
def tyR (n : Int) (rs : List (List Int)) (i k : Nat) : List (List Int) := (List.range k).map fun j => typ n.toNat (rw_ rs i) (rw_ rs (i + 1 + j))
def tyP (n : Int) (rs : List (List Int)) (k : Nat) : List (List Int) := ((List.range k).map fun i => tyR n rs i (rs.length - (i + 1))).flatten
theorem tyR_len (n : Int) (rs : List (List Int)) (i k : Nat) : (tyR n rs i k).length = k := by simp [tyR]
theorem tyR_succ (n : Int) (rs : List (List Int)) (i k : Nat) : tyR n rs i (k + 1) = tyR n rs i k ++ [typ n.toNat (rw_ rs i) (rw_ rs (i + 1 + k))] := by
  unfold tyR; rw [List.range_succ, List.map_append]; rfl
theorem tyP_succ (n : Int) (rs : List (List Int)) (k : Nat) : tyP n rs (k + 1) = tyP n rs k ++ tyR n rs k (rs.length - (k + 1)) := by
  unfold tyP; rw [List.range_succ, List.map_append, List.flatten_append]; simp
theorem tyP_len (n : Int) {rs : List (List Int)} (h : rs.length ≤ 40) : ∀ k, (tyP n rs k).length ≤ k * 40
  | 0 => by simp [tyP]
  | k + 1 => by
    have := tyP_len n h k
    rw [tyP_succ, List.length_append, tyR_len]; omega
theorem rw_drop {l : List (List Int)} {i j : Nat} : rw_ (l.drop i) j = rw_ l (i + j) := by
  unfold rw_; rw [List.getD_eq_getElem?_getD, List.getD_eq_getElem?_getD, List.getElem?_drop]
theorem sTy_s1 {fu : Nat} (hf : Big fu) {n : Int} {rs : List (List Int)} (h : isSch n rs = true) {i : Nat} (hi : i < rs.length) {o : List (List Int)} (ho : o.length ≤ 1600) : loopF (D_spec_TypesOf_s1 fu n rs (i : Int)) fu (o, (i : Int) + 1) = some (o ++ tyR n rs i (rs.length - (i + 1))) := by
  unfold Big at hf
  have hf' : Big fu := hf
  obtain ⟨hn, h40⟩ := isSch_of h
  refine loop_seq (fun k => (o ++ tyR n rs i k, ((i + 1 + k : Nat) : Int))) (rs.length - (i + 1)) _ (by omega) ?_ ?_ (by simp [tyR])
  · intro k hk
    unfold D_spec_TypesOf_s1; dsimp only
    have hl : (o ++ tyR n rs i k).length = o.length + k := by rw [List.length_append, tyR_len]
    rw [bif_dt (by omega), chk_inR (by omega) (by omega), chk_inR (by omega) (by omega), Int.toNat_natCast, Int.toNat_natCast, l02Type_D hf' (sch_two h hi (by omega)), Option.bind_some, chk_le (by omega), chk_in64 (by omega) (by omega), tyR_succ, List.append_assoc]; rfl
  · unfold D_spec_TypesOf_s1; dsimp only
    rw [bif_df (by omega)]
theorem iTy_s1 {fu : Nat} (hf : Big fu) {n : Int} {rs : List (List Int)} (h : isSch n rs = true) {i : Nat} (hi : i < rs.length) {o : List (List Int)} (ho : o.length ≤ 1600) : loopF (D_impl_TypesOf_s1 fu n rs (i : Int)) fu (o, 0) = some (o ++ tyR n rs i (rs.length - (i + 1))) := by
  unfold Big at hf
  have hf' : Big fu := hf
  obtain ⟨hn, h40⟩ := isSch_of h
  have e1 : ((i : Int) + 1).toNat = i + 1 := by omega
  refine loop_seq (fun k => (o ++ tyR n rs i k, (k : Int))) (rs.length - (i + 1)) _ (by omega) ?_ ?_ (by simp [tyR])
  · intro k hk
    unfold D_impl_TypesOf_s1; dsimp only
    have hl : (o ++ tyR n rs i k).length = o.length + k := by rw [List.length_append, tyR_len]
    rw [e1, bif_dt (by omega), chk_inR (by omega) (by omega), Int.toNat_natCast, Int.toNat_natCast, rw_drop, kind_D hf' (sch_two h hi (by omega)), Option.bind_some, chk_le (by omega), chk_in64 (by omega) (by omega), tyR_succ, List.append_assoc]; rfl
  · unfold D_impl_TypesOf_s1; dsimp only
    rw [e1, bif_df (by omega)]
theorem sTy_s0 {fu : Nat} (hf : Big fu) {n : Int} {rs : List (List Int)} (h : isSch n rs = true) : loopF (D_spec_TypesOf_s0 fu n rs) fu ([], 0) = some (tyP n rs rs.length) := by
  unfold Big at hf
  have hf' : Big fu := hf
  obtain ⟨hn, h40⟩ := isSch_of h
  refine loop_seq (fun k => (tyP n rs k, (k : Int))) rs.length _ (by omega) ?_ ?_ rfl
  · intro k hk
    have := tyP_len n h40 k
    unfold D_spec_TypesOf_s0; dsimp only
    rw [bif_dt (by omega), chk_in64 (by omega) (by omega), sTy_s1 hf' h hk (by omega), Option.bind_some, chk_in64 (by omega) (by omega), tyP_succ]; rfl
  · unfold D_spec_TypesOf_s0; dsimp only
    rw [bif_df (by omega)]
theorem iTy_s0 {fu : Nat} (hf : Big fu) {n : Int} {rs : List (List Int)} (h : isSch n rs = true) : loopF (D_impl_TypesOf_s0 fu n rs) fu ([], 0) = some (tyP n rs rs.length) := by
  unfold Big at hf
  have hf' : Big fu := hf
  obtain ⟨hn, h40⟩ := isSch_of h
  refine loop_seq (fun k => (tyP n rs k, (k : Int))) rs.length _ (by omega) ?_ ?_ rfl
  · intro k hk
    have := tyP_len n h40 k
    unfold D_impl_TypesOf_s0; dsimp only
    rw [bif_dt (by omega), chk_inR (by omega) (by omega), chk_in64 (by omega) (by omega), chk_t ⟨by omega, by omega, by omega⟩, iTy_s1 hf' h hk (by omega), Option.bind_some, chk_in64 (by omega) (by omega), tyP_succ]; rfl
  · unfold D_impl_TypesOf_s0; dsimp only
    rw [bif_df (by omega)]
def typesOf (n : Int) (rs : List (List Int)) : List (List Int) × Int := if isSch n rs then (tyP n rs rs.length, 0) else ([], 1)
theorem typesOf_s {fu : Nat} (hf : Big fu) (n : Int) {rs : List (List Int)} (hA : All 14 rs) (hl : rs.length ≤ 4294967296) : D_spec_TypesOf fu n rs = some (typesOf n rs) := by
  unfold D_spec_TypesOf typesOf
  rw [l01Is_D hf n hA hl, Option.bind_some]
  cases h : isSch n rs with
  | false => rfl
  | true => rw [Bool.not_true, bif_false, sTy_s0 hf h]; rfl
theorem typesOf_i {fu : Nat} (hf : Big fu) (n : Int) {rs : List (List Int)} (hA : All 14 rs) (hl : rs.length ≤ 4294967296) : D_impl_TypesOf fu n rs = some (typesOf n rs) := by
  unfold D_impl_TypesOf typesOf
  rw [scheduleCode_D hf n hA hl (b := true) (fun _ => rfl), Option.bind_some]
  cases h : isSch n rs with
  | false => rfl
  | true =>
    simp only [if_true, decide_true, Bool.not_true, bif_false]
    rw [iTy_s0 hf h]; rfl
theorem tyP_mem {n : Int} {rs : List (List Int)} {k : Nat} {t : List Int} : t ∈ tyP n rs k ↔ ∃ i j, i < k ∧ i < j ∧ j < rs.length ∧ t = typ n.toNat (rw_ rs i) (rw_ rs j) := by
  unfold tyP tyR
  constructor
  · intro h
    obtain ⟨l, hl, ht⟩ := List.mem_flatten.1 h
    obtain ⟨i, hi, rfl⟩ := List.mem_map.1 hl
    obtain ⟨j, hj, rfl⟩ := List.mem_map.1 ht
    have := List.mem_range.1 hi
    have := List.mem_range.1 hj
    exact ⟨i, i + 1 + j, by omega, by omega, by omega, rfl⟩
  · rintro ⟨i, j, h1, h2, h3, rfl⟩
    refine List.mem_flatten.2 ⟨_, List.mem_map.2 ⟨i, List.mem_range.2 h1, rfl⟩, List.mem_map.2 ⟨j - (i + 1), List.mem_range.2 (by omega), ?_⟩⟩
    rw [show i + 1 + (j - (i + 1)) = j by omega]
theorem typesOf_small {fu : Nat} (hf : Big fu) (n : Int) (rs : List (List Int)) : (typesOf n rs).1.length ≤ 1600 ∧ ∀ t ∈ (typesOf n rs).1, t.length ≤ 14 := by
  unfold typesOf
  cases h : isSch n rs with
  | false => exact ⟨by simp, fun t ht => by simp at ht⟩
  | true =>
    obtain ⟨hn, h40⟩ := isSch_of h
    simp only [if_true]
    refine ⟨Nat.le_trans (tyP_len n h40 _) (by omega), fun t ht => ?_⟩
    obtain ⟨i, j, h1, h2, h3, rfl⟩ := tyP_mem.1 ht
    rw [typ_len]; exact (comps_small hf (sch_two h h1 h3)).2.1
def cnt1 (n : Int) (rs : List (List Int)) (i j : Nat) : Bool := decide ((comps n.toNat (rw_ rs j) (rw_ rs i)).length = 1)
def prf (n : Int) (rs : List (List Int)) : Bool := (List.range rs.length).all fun i => (List.range i).all (cnt1 n rs i)
theorem sPrf_s1 {fu : Nat} (hf : Big fu) {n : Int} {rs : List (List Int)} (h : isSch n rs = true) {i : Nat} (hi : i < rs.length) : loopF (D_spec_IsPerfect_s1 fu n rs (i : Int)) fu 0 = some (if (List.range i).all (cnt1 n rs i) then .inl () else .inr (false, 0)) := by
  unfold Big at hf
  have hf' : Big fu := hf
  obtain ⟨hn, h40⟩ := isSch_of h
  rw [loop_find (fun k => (k : Int)) (cnt1 n rs i) i (.inl ()) (fun _ => .inr (false, 0)) (by omega) ?_ ?_ ?_ (s := 0) rfl]
  · by_cases h : firstNot (cnt1 n rs i) i < i
    · rw [if_pos h, if_neg (fun h' => all_range.1 h' h)]
    · rw [if_neg h, if_pos (all_range.2 h)]
  all_goals first | (intro k hk hp _) | intro _
  · unfold cnt1 at hp
    unfold D_spec_IsPerfect_s1
    rw [bif_dt (by omega), chk_inR (by omega) (by omega), chk_inR (by omega) (by omega), Int.toNat_natCast, Int.toNat_natCast, sComps hf' (sch_two h (by omega) hi), Option.bind_some, bif_nt (by rw [of_decide_eq_true hp]; rfl), chk_in64 (by omega) (by omega)]; rfl
  · unfold cnt1 at hp
    have hp' := of_decide_eq_false hp
    unfold D_spec_IsPerfect_s1
    rw [bif_dt (by omega), chk_inR (by omega) (by omega), chk_inR (by omega) (by omega), Int.toNat_natCast, Int.toNat_natCast, sComps hf' (sch_two h (by omega) hi), Option.bind_some, bif_nf (by omega)]
  · unfold D_spec_IsPerfect_s1
    rw [bif_df (by omega)]
theorem sPrf_s0 {fu : Nat} (hf : Big fu) {n : Int} {rs : List (List Int)} (h : isSch n rs = true) : loopF (D_spec_IsPerfect_s0 fu n rs) fu 0 = some (if prf n rs then .inl () else .inr (false, 0)) := by
  unfold Big at hf
  have hf' : Big fu := hf
  obtain ⟨hn, h40⟩ := isSch_of h
  rw [loop_find (fun k => (k : Int)) (fun i => (List.range i).all (cnt1 n rs i)) rs.length (.inl ()) (fun _ => .inr (false, 0)) (by omega) ?_ ?_ ?_ (s := 0) rfl]
  · unfold prf
    by_cases h : firstNot (fun i => (List.range i).all (cnt1 n rs i)) rs.length < rs.length
    · rw [if_pos h, if_neg (fun h' => all_range.1 h' h)]
    · rw [if_neg h, if_pos (all_range.2 h)]
  all_goals first | (intro k hk hp _) | intro _
  · unfold D_spec_IsPerfect_s0
    rw [bif_dt (by omega), sPrf_s1 hf' h hk, if_pos hp, Option.bind_some]
    dsimp only
    rw [chk_in64 (by omega) (by omega)]; rfl
  · unfold D_spec_IsPerfect_s0
    rw [bif_dt (by omega), sPrf_s1 hf' h hk, if_neg (by rw [hp]; simp), Option.bind_some]
  · unfold D_spec_IsPerfect_s0
    rw [bif_df (by omega)]
def perfOf (n : Int) (rs : List (List Int)) : Bool × Int := if isSch n rs then (prf n rs, 0) else (false, 1)
theorem perf_s {fu : Nat} (hf : Big fu) (n : Int) {rs : List (List Int)} (hA : All 14 rs) (hl : rs.length ≤ 4294967296) : D_spec_IsPerfect fu n rs = some (perfOf n rs) := by
  unfold D_spec_IsPerfect perfOf
  rw [l01Is_D hf n hA hl, Option.bind_some]
  cases h : isSch n rs with
  | false => rfl
  | true =>
    rw [Bool.not_true, bif_false, sPrf_s0 hf h, Option.bind_some]
    cases prf n rs <;> rfl
theorem prf_any {fu : Nat} (hf : Big fu) {n : Int} {rs : List (List Int)} (h : isSch n rs = true) : ((tyP n rs rs.length).any fun t => decide (1 < (t.length : Int))) = !prf n rs := by
  cases hp : prf n rs with
  | true =>
    rw [Bool.not_true, List.any_eq_false]
    intro t ht
    obtain ⟨i, j, h1, h2, h3, rfl⟩ := tyP_mem.1 ht
    unfold prf at hp
    rw [List.all_eq_true] at hp
    have := hp j (List.mem_range.2 h3)
    rw [List.all_eq_true] at this
    have := this i (List.mem_range.2 h2)
    unfold cnt1 at this
    rw [typ_len, of_decide_eq_true this]; decide
  | false =>
    rw [Bool.not_false, List.any_eq_true]
    unfold prf at hp
    rw [List.all_eq_false] at hp
    obtain ⟨j, hj, h1⟩ := hp
    have hj := List.mem_range.1 hj
    rw [Bool.not_eq_true, List.all_eq_false] at h1
    obtain ⟨i, hi, h2⟩ := h1
    have hi := List.mem_range.1 hi
    unfold cnt1 at h2
    rw [decide_eq_true_eq] at h2
    refine ⟨_, tyP_mem.2 ⟨i, j, by omega, hi, hj, rfl⟩, ?_⟩
    have := (comps_small hf (sch_two h (by omega : i < rs.length) hj)).1
    rw [typ_len, decide_eq_true_eq]; omega
theorem perf_i {fu : Nat} (hf : Big fu) (n : Int) {rs : List (List Int)} (hA : All 14 rs) (hl : rs.length ≤ 4294967296) : D_impl_IsPerfect fu n rs = some (perfOf n rs) := by
  unfold D_impl_IsPerfect perfOf
  have hs := (typesOf_small hf n rs).1
  rw [typesOf_i hf n hA hl, Option.bind_some]
  unfold typesOf at hs ⊢
  cases h : isSch n rs with
  | false => rfl
  | true =>
    rw [h] at hs
    simp only [if_true, decide_true, Bool.not_true, bif_false] at hs ⊢
    rw [ContainsFuncT_D hf (q := fun x => D_impl_IsPerfect_1 fu x) (by omega) (p := fun t => decide (1 < (t.length : Int))) (fun t _ => rfl), Option.bind_some, prf_any hf h, Bool.not_not]
end Go.Proofs.Ytdafmafigcljkaa

