/-
  ParseSchedule: what reference and program compute, and that it is the same. Plain Lean, no program, no condition.
-/
import Derived.Test.YtfiilgnebmidbaaDoorPuPh
namespace Go.Proofs.YtfiilgnebmidbaaDoor
open Go Am
set_option linter.unusedVariables false
set_option linter.unusedSimpArgs false

def prL (w : List UInt8) : Option (List Int) := match spl 45 w with
  | [a, b] => some [sNum a, sNum b]
  | _ => none
def pairsS (t : List UInt8) : Option (List (List Int)) := if t = [] then some [] else mpO prL (spl 44 t)
def rndS (n : Int) (t : List UInt8) : Option (List Int) := match pairsS t with
  | none => none
  | some ps => if decide ((roundOf n ps).2 = 0) && decide (rndT n (roundOf n ps).1 = t) then some (roundOf n ps).1 else none
def schS (l : List UInt8) : Int × List (List Int) × Int := match spl 58 l with
  | [a, b] => match mpO (rndS (sNum a)) (spl 59 b) with
    | some rs => if isSch (sNum a) rs then (sNum a, rs, 0) else (0, [], 6)
    | none => (0, [], 6)
  | _ => (0, [], 6)
def prI (w : List UInt8) : List Int := [rdNum (toB (Go.Lib.cut w [45]).1), rdNum (toB (Go.Lib.cut w [45]).2.1)]
def pairsI (t : List UInt8) : List (List Int) := if t = [] then [] else (spl 44 t).map prI
def rndI (n : Int) (t : List UInt8) : Option (List Int) := if (roundOf n (pairsI t)).2 = 0 then some (roundOf n (pairsI t)).1 else none
def schI (l : List UInt8) : Int × List (List Int) × Int := match mpO (rndI (rdNum (toB (Go.Lib.cut l [58]).1))) (spl 59 (Go.Lib.cut l [58]).2.1) with
    | some rs => if isSch (rdNum (toB (Go.Lib.cut l [58]).1)) rs && decide (schT (rdNum (toB (Go.Lib.cut l [58]).1)) rs = l) then (rdNum (toB (Go.Lib.cut l [58]).1), rs, 0) else (0, [], 6)
    | none => (0, [], 6)
theorem wp_mem {p : List Int} (h : okP14 p) {x : UInt8} (hx : x ∈ wp p) : x.toNat = 45 ∨ (48 ≤ x.toNat ∧ x.toNat ≤ 57) := by
  obtain ⟨_, h0, h1⟩ := h
  unfold wp at hx
  rw [List.mem_append, List.mem_append] at hx
  rcases hx with (hx | hx) | hx
  · exact .inr (dec_mem ⟨by omega, by omega⟩ x hx)
  · rw [List.mem_singleton.1 hx]; exact .inl rfl
  · exact .inr (dec_mem ⟨by omega, by omega⟩ x hx)
theorem two_eq {p : List Int} (h : p.length = 2) : [rd p 0, rd p 1] = p := by
  match p, h with
  | [a, b], _ => rfl
theorem prL_wp {p : List Int} (h : okP14 p) : prL (wp p) = some p := by
  obtain ⟨h2, h0, h1⟩ := h
  unfold prL wp
  rw [List.append_assoc, List.singleton_append, spl_app (not_dec ⟨by omega, by omega⟩ (by decide)), spl_none (not_dec ⟨by omega, by omega⟩ (by decide))]
  show some [sNum (dec (rd p 0)), sNum (dec (rd p 1))] = _
  rw [sNum_dec ⟨by omega, by omega⟩, sNum_dec ⟨by omega, by omega⟩, two_eq h2]
theorem prI_wp {p : List Int} (h : okP14 p) : prI (wp p) = p := by
  obtain ⟨h2, h0, h1⟩ := h
  unfold prI wp
  rw [List.append_assoc, List.singleton_append, cut_some (not_dec ⟨by omega, by omega⟩ (by decide))]
  show [rdNum (toB (dec (rd p 0))), rdNum (toB (dec (rd p 1)))] = _
  rw [rdNum_dec ⟨by omega, by omega⟩, rdNum_dec ⟨by omega, by omega⟩, two_eq h2]
theorem rndT_mem {n : Int} {r : List Int} (h : isRnd n r = true) {x : UInt8} (hx : x ∈ rndT n r) : x.toNat ≠ 58 ∧ x.toNat ≠ 59 := by
  unfold rndT at hx
  rcases join_mem hx with rfl | ⟨p, hp, h1⟩
  · decide
  · obtain ⟨q, hq, rfl⟩ := List.mem_map.1 hp
    have := wp_mem (prs_ok h q hq) h1
    omega
theorem wps_free {n : Int} {r : List Int} (h : isRnd n r = true) : ∀ p ∈ (prs r n.toNat).map wp, (44 : UInt8) ∉ p := fun p hp hm => by
  obtain ⟨q, hq, rfl⟩ := List.mem_map.1 hp
  have := wp_mem (prs_ok h q hq) hm
  simp at this
theorem rndT_nil {n : Int} {r : List Int} (h : isRnd n r = true) : rndT n r = [] ↔ prs r n.toNat = [] := by
  constructor
  · intro e
    cases hp : prs r n.toNat with
    | nil => rfl
    | cons p ps =>
      exfalso
      have h1 : spl 44 (rndT n r) = (prs r n.toNat).map wp := by
        unfold rndT
        exact spl_join (by rw [hp]; simp) (wps_free h)
      rw [e, hp] at h1
      have h2 : [] = wp p := by
        have := congrArg (fun l => l.headD [0]) h1
        exact this
      have : (45 : UInt8) ∈ wp p := by unfold wp; simp
      rw [← h2] at this
      cases this
  · intro e
    unfold rndT; rw [e]; rfl
theorem pairsS_T {n : Int} {r : List Int} (h : isRnd n r = true) : pairsS (rndT n r) = some (prs r n.toNat) := by
  unfold pairsS
  by_cases e : rndT n r = []
  · rw [if_pos e, (rndT_nil h).1 e]
  · rw [if_neg e]
    have hne : prs r n.toNat ≠ [] := fun e' => e ((rndT_nil h).2 e')
    unfold rndT
    rw [spl_join (by simpa using hne) (wps_free h)]
    exact mpO_map (fun p hp => prL_wp (prs_ok h p hp))
theorem pairsI_T {n : Int} {r : List Int} (h : isRnd n r = true) : pairsI (rndT n r) = prs r n.toNat := by
  unfold pairsI
  by_cases e : rndT n r = []
  · rw [if_pos e, (rndT_nil h).1 e]
  · rw [if_neg e]
    have hne : prs r n.toNat ≠ [] := fun e' => e ((rndT_nil h).2 e')
    unfold rndT
    rw [spl_join (by simpa using hne) (wps_free h), List.map_map]
    exact (List.map_congr_left (fun p hp => prI_wp (prs_ok h p hp))).trans (List.map_id _)
theorem rndS_T {n : Int} {r : List Int} (h : isRnd n r = true) (hl : r.length = 14) : rndS n (rndT n r) = some r := by
  unfold rndS
  rw [pairsS_T h]
  dsimp only
  rw [roundOf_prs h hl]
  dsimp only
  rw [decide_eq_true rfl, decide_eq_true rfl, Bool.and_self, if_pos rfl]
theorem rndI_T {n : Int} {r : List Int} (h : isRnd n r = true) (hl : r.length = 14) : rndI n (rndT n r) = some r := by
  unfold rndI
  rw [pairsI_T h, roundOf_prs h hl, if_pos rfl]
theorem rndS_back {n : Int} (t : List UInt8) (r : List Int) (h : rndS n t = some r) : t = rndT n r := by
  unfold rndS at h
  split at h
  · cases h
  · split at h
    · rename_i hc
      rw [Bool.and_eq_true, decide_eq_true_eq, decide_eq_true_eq] at hc
      obtain rfl := Option.some.inj h
      exact hc.2.symm
    · cases h
theorem rndS_len {n : Int} {t : List UInt8} {r : List Int} (h : rndS n t = some r) : r.length = 14 := by
  unfold rndS at h
  split at h
  · cases h
  · split at h
    · obtain rfl := Option.some.inj h
      exact roundOf_len _ _
    · cases h
theorem rndI_len {n : Int} {t : List UInt8} {r : List Int} (h : rndI n t = some r) : r.length = 14 := by
  unfold rndI at h
  split at h
  · obtain rfl := Option.some.inj h
    exact roundOf_len _ _
  · cases h
theorem sch_parse {n : Int} {f : List UInt8 → Option (List Int)} (hf : ∀ r : List Int, isRnd n r = true → r.length = 14 → f (rndT n r) = some r) {rs : List (List Int)} (h : isSch n rs = true) (hA : All 14 rs) (hne : rs ≠ []) : mpO f (spl 59 (Go.Lib.join (rs.map (rndT n)) [59])) = some rs := by
  rw [spl_join (by simpa using hne)]
  · exact mpO_map (fun r hr => hf r (sch_rnd h r hr) (hA r hr))
  · intro p hp hm
    obtain ⟨r, hr, rfl⟩ := List.mem_map.1 hp
    exact (rndT_mem (sch_rnd h r hr) hm).2 rfl
theorem sch_tail {n : Int} {rs : List (List Int)} (h : isSch n rs = true) : (58 : UInt8) ∉ Go.Lib.join (rs.map (rndT n)) [59] := fun hm => by
  rcases join_mem hm with e | ⟨p, hp, h1⟩
  · simp at e
  · obtain ⟨r, hr, rfl⟩ := List.mem_map.1 hp
    exact (rndT_mem (sch_rnd h r hr) h1).1 rfl
theorem schS_text {n : Int} {rs : List (List Int)} (h : isSch n rs = true) (hA : All 14 rs) (hne : rs ≠ []) : schS (schT n rs) = (n, rs, 0) := by
  have hn := (isSch_of h).1
  unfold schS schT
  rw [List.append_assoc, List.singleton_append, spl_app (not_dec ⟨by omega, by omega⟩ (by decide)), spl_none (sch_tail h)]
  dsimp only
  rw [sNum_dec ⟨by omega, by omega⟩, sch_parse (fun r => rndS_T) h hA hne]
  dsimp only
  rw [if_pos h]
theorem schI_text {n : Int} {rs : List (List Int)} (h : isSch n rs = true) (hA : All 14 rs) (hne : rs ≠ []) : schI (schT n rs) = (n, rs, 0) := by
  have hn := (isSch_of h).1
  have e : Go.Lib.cut (schT n rs) [58] = (dec n, Go.Lib.join (rs.map (rndT n)) [59], true) := by
    unfold schT
    rw [List.append_assoc, List.singleton_append, cut_some (not_dec ⟨by omega, by omega⟩ (by decide))]
  unfold schI
  rw [e]
  dsimp only
  rw [rdNum_dec ⟨by omega, by omega⟩, sch_parse (fun r => rndI_T) h hA hne]
  dsimp only
  rw [h, decide_eq_true rfl, Bool.and_self, if_pos rfl]
theorem mp_ne {f : List UInt8 → Option (List Int)} {b : List UInt8} {rs : List (List Int)} (h : mpO f (spl 59 b) = some rs) : rs ≠ [] := fun e => by
  have := mpO_len h
  have h2 := spl_len 59 b
  rw [e] at this
  simp at this
  omega
theorem schS_back {l : List UInt8} : schS l = (0, [], 6) ∨ ∃ n rs, isSch n rs = true ∧ All 14 rs ∧ rs ≠ [] ∧ l = schT n rs := by
  have hj := join_spl 58 l
  unfold schS
  split
  · rename_i a b hab
    rw [hab] at hj
    split
    · rename_i rs hrs
      split
      · rename_i hs
        refine .inr ⟨sNum a, rs, hs, fun r hr => ?_, mp_ne hrs, ?_⟩
        · obtain ⟨t, _, e⟩ := mpO_mem hrs r hr
          exact rndS_len e
        · have hn := (isSch_of hs).1
          have e1 := mpO_back (g := rndT (sNum a)) rndS_back hrs
          have e2 := join_spl 59 b
          unfold schT
          rw [← e1, e2, ← dec_sNum (l := a) ⟨by omega, by omega⟩ rfl, ← hj, Go.Lib.join_cons]; simp [Go.Lib.joinTail]
      · exact .inl rfl
    · exact .inl rfl
  · exact .inl rfl
theorem schI_back {l : List UInt8} : schI l = (0, [], 6) ∨ ∃ n rs, isSch n rs = true ∧ All 14 rs ∧ rs ≠ [] ∧ l = schT n rs := by
  unfold schI
  split
  · rename_i rs hrs
    split
    · rename_i hs
      rw [Bool.and_eq_true, decide_eq_true_eq] at hs
      refine .inr ⟨_, rs, hs.1, fun r hr => ?_, mp_ne hrs, hs.2.symm⟩
      obtain ⟨t, _, e⟩ := mpO_mem hrs r hr
      exact rndI_len e
    · exact .inl rfl
  · exact .inl rfl
theorem sch_same (l : List UInt8) : schI l = schS l := by
  by_cases h : ∃ n rs, isSch n rs = true ∧ All 14 rs ∧ rs ≠ [] ∧ l = schT n rs
  · obtain ⟨n, rs, h1, h2, h3, rfl⟩ := h
    rw [schS_text h1 h2 h3, schI_text h1 h2 h3]
  · rcases schS_back (l := l) with e | e
    · rcases schI_back (l := l) with e' | e'
      · rw [e, e']
      · exact absurd e' h
    · exact absurd e h
theorem schS_small (l : List UInt8) : (schS l).2.1.length ≤ 40 ∧ All 14 (schS l).2.1 := by
  rcases schS_back (l := l) with e | ⟨n, rs, h, hA, hne, rfl⟩
  · rw [e]; exact ⟨by simp, all_nil⟩
  · rw [schS_text h hA hne]
    exact ⟨(isSch_of h).2, hA⟩
end Go.Proofs.YtfiilgnebmidbaaDoor

