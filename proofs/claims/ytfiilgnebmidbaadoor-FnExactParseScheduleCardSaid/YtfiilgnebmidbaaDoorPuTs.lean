/-
  ScheduleText: what program and reference compute, and the law. Plain Lean, no program, no condition.
-/
import Derived.Test.YtfiilgnebmidbaaDoorDG
import Derived.Test.YtfiilgnebmidbaaDoorPuTq
namespace Go.Proofs.YtfiilgnebmidbaaDoor
open Go Am
set_option linter.unusedVariables false
set_option linter.unusedSimpArgs false

def wp (p : List Int) : List UInt8 := dec (rd p 0) ++ [45] ++ dec (rd p 1)
def rndT (n : Int) (r : List Int) : List UInt8 := Go.Lib.join ((prs r n.toNat).map wp) [44]
def schT (n : Int) (rs : List (List Int)) : List UInt8 := dec n ++ [58] ++ Go.Lib.join (rs.map (rndT n)) [59]
def okP14 (p : List Int) : Prop := p.length = 2 ∧ (0 ≤ rd p 0 ∧ rd p 0 < 14) ∧ (0 ≤ rd p 1 ∧ rd p 1 < 14)
theorem prs_ok {n : Int} {r : List Int} (h : isRnd n r = true) : ∀ p ∈ prs r n.toNat, okP14 p := fun p hp => by
  unfold prs at hp
  obtain ⟨a, ha, rfl⟩ := List.mem_map.1 hp
  have h1 := List.mem_range.1 (List.mem_filter.1 ha).1
  have hn : 2 ≤ n ∧ n ≤ 14 := by unfold isRnd at h; rw [Bool.and_eq_true] at h; exact inB_of h.1
  unfold isRnd at h
  rw [Bool.and_eq_true, List.all_eq_true] at h
  have := h.2 a (List.mem_range.2 (by omega))
  unfold rndAt at this
  rw [if_pos (by omega), Bool.and_eq_true] at this
  have := inB_of this.1
  refine ⟨rfl, ?_, ?_⟩
  · show 0 ≤ (a : Int) ∧ (a : Int) < 14; omega
  · show 0 ≤ rd r a ∧ rd r a < 14; omega
theorem wp_len {p : List Int} (h : okP14 p) : (wp p).length ≤ 5 := by
  obtain ⟨_, h0, h1⟩ := h
  have l0 := dec_len (n := rd p 0) ⟨by omega, by omega⟩
  have l1 := dec_len (n := rd p 1) ⟨by omega, by omega⟩
  unfold wp; simp only [List.length_append, List.length_cons, List.length_nil]; omega
theorem wps_len {n : Int} {r : List Int} (h : isRnd n r = true) : ∀ w ∈ (prs r n.toNat).map wp, w.length ≤ 5 := fun w hw => by
  obtain ⟨p, hp, rfl⟩ := List.mem_map.1 hw
  exact wp_len (prs_ok h p hp)
theorem isRnd_n14 {n : Int} {r : List Int} (h : isRnd n r = true) : 2 ≤ n ∧ n ≤ 14 := by unfold isRnd at h; rw [Bool.and_eq_true] at h; exact inB_of h.1
theorem rndT_len {n : Int} {r : List Int} (h : isRnd n r = true) : (rndT n r).length ≤ 84 := by
  have h1 := join_len (s := 44) (wps_len h)
  have h2 := prs_len r n.toNat
  have := isRnd_n14 h
  rw [List.length_map] at h1
  unfold rndT; omega
theorem e0' : (⟨#[]⟩ : ByteArray) = toB [] := rfl
theorem sRnd {fu : Nat} (hf : Big fu) {n : Int} {r : List Int} (h : isRnd n r = true) : D_spec_l01RoundText fu n r = some (toB (rndT n r)) := by
  have hf' := hf
  unfold Big at hf
  have hn := isRnd_n14 h
  have hok := prs_ok h
  have hw := wps_len h
  have hpl := prs_len r n.toNat
  unfold D_spec_l01RoundText rndT
  rw [l01Pairs_D hf' ⟨by omega, by omega⟩, Option.bind_some, e0']
  generalize prs r n.toNat = ps at *
  rw [loop_seq (fun j => (toB (Go.Lib.join ((ps.map wp).take j) [44]), (j : Int))) ps.length (toB (Go.Lib.join (ps.map wp) [44])) (by omega) ?_ ?_ (by simp [Go.Lib.join_nil])]; rfl
  · intro j hj
    obtain ⟨p2, p0, p1⟩ := hok _ (rw_mem hj)
    have hl := join_take (s := 44) hw (k := j) (by rw [List.length_map]; omega)
    rw [List.length_map] at hl
    have hst := step_text (acc := []) (s := 44) (rw_map (f := wp) hj)
    simp only [List.nil_append] at hst
    generalize Go.Lib.join ((ps.map wp).take j) [44] = a at hst hl
    have l0 := dec_len (n := rd (rw_ ps j) 0) ⟨by omega, by omega⟩
    have l1 := dec_len (n := rd (rw_ ps j) 1) ⟨by omega, by omega⟩
    unfold D_spec_l01RoundText_s0; dsimp only
    rw [bif_dt (by omega), sep_D e44 (by omega), Option.bind_some]
    generalize hB : (if 0 < j then a ++ [44] else a) = b at hst
    have hbl : b.length ≤ 10100 := by rw [← hB]; split <;> (try rw [List.length_append, List.length_singleton]) <;> omega
    rw [chk_inR (by omega) (by omega), Int.toNat_natCast, chk_inR (by omega) (by omega), l01Dec_D hf' ⟨by omega, by omega⟩, Option.bind_some, chk_inR (by omega) (by omega), chk_inR (by omega) (by omega), l01Dec_D hf' ⟨by omega, by omega⟩, Option.bind_some, toB_app, appL e45, toB_app,
      chkS (by omega), chkL e45 (by rw [List.length_append]; omega), chkS (by simp only [List.length_append, List.length_cons, List.length_nil]; omega), chk_in64 (by omega) (by omega), ← hst]
    unfold wp
    simp only [List.append_assoc]; rfl
  · unfold D_spec_l01RoundText_s0; dsimp only
    rw [bif_df (by omega), List.take_of_length_le (by rw [List.length_map]; omega)]
theorem sch_rnd {n : Int} {rs : List (List Int)} (h : isSch n rs = true) : ∀ r ∈ rs, isRnd n r = true := by
  unfold isSch at h
  rw [Bool.and_eq_true, List.all_eq_true] at h
  exact h.2
theorem rnds_len {n : Int} {rs : List (List Int)} (h : isSch n rs = true) : ∀ w ∈ rs.map (rndT n), w.length ≤ 84 := fun w hw => by
  obtain ⟨r, hr, rfl⟩ := List.mem_map.1 hw
  exact rndT_len (sch_rnd h r hr)
theorem sSch {fu : Nat} (hf : Big fu) {n : Int} {rs : List (List Int)} (h : isSch n rs = true) : D_spec_l01Text fu n rs = some (toB (schT n rs)) := by
  have hf' := hf
  unfold Big at hf
  obtain ⟨hn, h40⟩ := isSch_of h
  have ld := dec_len (n := n) ⟨by omega, by omega⟩
  have hw := rnds_len h
  unfold D_spec_l01Text schT
  rw [l01Dec_D hf' ⟨by omega, by omega⟩, Option.bind_some, chkL e58 (by omega), appL e58]
  rw [loop_seq (fun i => (toB ((dec n ++ [58]) ++ Go.Lib.join ((rs.map (rndT n)).take i) [59]), (i : Int))) rs.length (toB ((dec n ++ [58]) ++ Go.Lib.join (rs.map (rndT n)) [59])) (by omega) ?_ ?_ (by simp [Go.Lib.join_nil])]; rfl
  · intro i hi
    have hr := sch_rnd h _ (rw_mem hi)
    have hrl := rndT_len hr
    have hl := join_take (s := 59) hw (k := i) (by rw [List.length_map]; omega)
    rw [List.length_map] at hl
    have hst := step_text (acc := dec n ++ [58]) (s := 59) (rw_map (f := rndT n) hi)
    generalize hA : (dec n ++ [58]) ++ Go.Lib.join ((rs.map (rndT n)).take i) [59] = a at hst
    have hal : a.length ≤ 10000 := by rw [← hA]; simp only [List.length_append, List.length_cons, List.length_nil]; omega
    unfold D_spec_l01Text_s0; dsimp only
    rw [bif_dt (by omega), sep_D e59 (by omega), Option.bind_some]
    generalize hB : (if 0 < i then a ++ [59] else a) = b at hst
    have hbl : b.length ≤ 10100 := by rw [← hB]; split <;> (try rw [List.length_append, List.length_singleton]) <;> omega
    rw [chk_inR (by omega) (by omega), Int.toNat_natCast, sRnd hf' hr, Option.bind_some, chkS (by omega), chk_in64 (by omega) (by omega), toB_app, hst]; rfl
  · unfold D_spec_l01Text_s0; dsimp only
    rw [bif_df (by omega), List.take_of_length_le (by rw [List.length_map]; omega)]
theorem iRnd {fu : Nat} (hf : Big fu) {n : Int} {r : List Int} (h : isRnd n r = true) : loopF (D_impl_Schedule_text_s1 fu (prs r n.toNat)) fu ([], 0) = some (((prs r n.toNat).map wp).map toB) := by
  have hf' := hf
  unfold Big at hf
  have hn := isRnd_n14 h
  have hok := prs_ok h
  have hpl := prs_len r n.toNat
  generalize prs r n.toNat = ps at *
  refine loop_seq (fun j => (((ps.map wp).map toB).take j, (j : Int))) ps.length _ (by omega) ?_ ?_ rfl
  · intro j hj
    obtain ⟨p2, p0, p1⟩ := hok _ (rw_mem hj)
    have l0 := dec_len (n := rd (rw_ ps j) 0) ⟨by omega, by omega⟩
    have l1 := dec_len (n := rd (rw_ ps j) 1) ⟨by omega, by omega⟩
    have hl : (((ps.map wp).map toB).take j).length = j := by simp; omega
    have ht : ((ps.map wp).map toB).take (j + 1) = ((ps.map wp).map toB).take j ++ [toB (wp (rw_ ps j))] := take_app (by rw [List.map_map]; exact rw_map (f := toB ∘ wp) hj)
    unfold D_impl_Schedule_text_s1; dsimp only
    rw [bif_dt (by omega), chk_inR (by omega) (by omega), Int.toNat_natCast, chk_inR (by omega) (by omega), decimal_D ⟨by omega, by omega⟩, Option.bind_some, chkL e45 (by omega), chk_inR (by omega) (by omega), decimal_D ⟨by omega, by omega⟩, Option.bind_some, appL e45, toB_app,
      chkS (by simp only [List.length_append, List.length_cons, List.length_nil]; omega), chk_le (by omega), chk_in64 (by omega) (by omega), ht]; rfl
  · unfold D_impl_Schedule_text_s1; dsimp only
    rw [bif_df (by omega), List.take_of_length_le (by simp)]
theorem iSch {fu : Nat} (hf : Big fu) {n : Int} {rs : List (List Int)} (h : isSch n rs = true) : D_impl_Schedule_text fu n rs = some (toB (schT n rs)) := by
  have hf' := hf
  unfold Big at hf
  obtain ⟨hn, h40⟩ := isSch_of h
  have ld := dec_len (n := n) ⟨by omega, by omega⟩
  have hw := rnds_len h
  have hJ := join_len (s := 59) hw
  rw [List.length_map] at hJ
  unfold D_impl_Schedule_text schT
  rw [loop_seq (fun i => (((rs.map (rndT n)).map toB).take i, (i : Int))) rs.length ((rs.map (rndT n)).map toB) (by omega) ?_ ?_ (s := ([], 0)) rfl, Option.bind_some, decimal_D ⟨by omega, by omega⟩, Option.bind_some]
  · rw [chkL e58 (by omega), e59, joined_D (s := 59) (b := 84) hw (by rw [List.length_map]; omega) (by rw [List.length_map]; omega), Option.bind_some, appL e58, chkS (by simp only [List.length_append, List.length_cons, List.length_nil]; omega), toB_app]
  · intro i hi
    have hr := sch_rnd h _ (rw_mem hi)
    have hpl := prs_len (rw_ rs i) n.toNat
    have hl : (((rs.map (rndT n)).map toB).take i).length = i := by simp; omega
    have ht : ((rs.map (rndT n)).map toB).take (i + 1) = ((rs.map (rndT n)).map toB).take i ++ [toB (rndT n (rw_ rs i))] := take_app (by rw [List.map_map]; exact rw_map (f := toB ∘ rndT n) hi)
    unfold D_impl_Schedule_text_s0; dsimp only
    rw [bif_dt (by omega), chk_inR (by omega) (by omega), Int.toNat_natCast, pairs_D hf' ⟨by omega, by omega⟩, Option.bind_some, iRnd hf' hr, Option.bind_some, e44, joined_D (s := 44) (b := 5) (wps_len hr) (by rw [List.length_map]; omega) (by rw [List.length_map]; omega), Option.bind_some, chk_le (by omega), chk_in64 (by omega) (by omega), ht]; rfl
  · unfold D_impl_Schedule_text_s0; dsimp only
    rw [bif_df (by omega), List.take_of_length_le (by simp)]
def schTx (n : Int) (rs : List (List Int)) : ByteArray × Int := if isSch n rs then if rs.length = 0 then (toB [], 5) else (toB (schT n rs), 0) else (toB [], 1)
theorem schText_eqs {fu : Nat} (hf : Big fu) (n : Int) {rs : List (List Int)} (hA : All 14 rs) (hl : rs.length ≤ 4294967296) : D_spec_ScheduleText fu n rs = some (schTx n rs) ∧ D_impl_ScheduleText fu n rs = some (schTx n rs) := by
  unfold D_spec_ScheduleText D_impl_ScheduleText schTx
  rw [l01Is_D hf n hA hl, scheduleCode_D hf n hA hl (b := true) (fun _ => rfl), Option.bind_some, Option.bind_some]
  cases h : isSch n rs with
  | false => exact ⟨rfl, rfl⟩
  | true =>
    by_cases h0 : rs.length = 0
    · constructor
      · rw [Bool.not_true, bif_false, bif_dt (by omega)]; simp only [if_true, h0]; rfl
      · simp only [if_true, h0, decide_true, Bool.true_and]
        rfl
    · have e : ¬ ((rs.length : Nat) : Int) = 0 := by omega
      constructor
      · rw [Bool.not_true, bif_false, bif_df e, sSch hf h, if_pos rfl, if_neg h0]; rfl
      · simp only [if_true, decide_true, Bool.true_and, if_neg h0]
        rw [bif_df e, Option.bind_some, bif_nt rfl, iSch hf h]; rfl
end Go.Proofs.YtfiilgnebmidbaaDoor

