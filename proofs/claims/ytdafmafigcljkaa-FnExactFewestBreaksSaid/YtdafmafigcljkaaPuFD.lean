/-
  FewestBreaks: what program and reference compute, and the law. Plain Lean, no program, no condition.
-/
import Derived.Test.YtdafmafigcljkaaDFc
import Derived.Test.YtdafmafigcljkaaPuFC
namespace Go.Proofs.Ytdafmafigcljkaa
open Go Am
set_option linter.unusedVariables false
set_option linter.unusedSimpArgs false

def offs (N : Nat) (rs : List (List Int)) : Nat → Nat
  | 0 => 0
  | i + 1 => offs N rs i + idx (rw_ rs i) N
theorem offs_mono (N : Nat) (rs : List (List Int)) (i : Nat) : ∀ c, offs N rs i ≤ offs N rs (i + c)
  | 0 => Nat.le_refl _
  | c + 1 => by
    have := offs_mono N rs i c
    show offs N rs i ≤ offs N rs (i + c) + idx (rw_ rs (i + c)) N
    omega
theorem offs_le {N : Nat} {rs : List (List Int)} {i j : Nat} (h : i ≤ j) : offs N rs i ≤ offs N rs j := by
  have := offs_mono N rs i (j - i); rwa [Nat.add_sub_cancel' h] at this
theorem offs_bound (N : Nat) (rs : List (List Int)) : ∀ i, offs N rs i ≤ N * i
  | 0 => Nat.le_refl _
  | i + 1 => by
    have h1 := offs_bound N rs i
    have h2 := idx_le (rw_ rs i) N
    unfold offs; rw [Nat.mul_add, Nat.mul_one]; omega
/-- the games: round, and the two that meet -/
def gms (N : Nat) (rs : List (List Int)) : Nat → List (List Int)
  | 0 => []
  | i + 1 => gms N rs i ++ (List.range (idx (rw_ rs i) N)).map fun k => [(i : Int), rd (rw_ (prs (rw_ rs i) N) k) 0, rd (rw_ (prs (rw_ rs i) N) k) 1]
theorem gms_len (N : Nat) (rs : List (List Int)) : ∀ i, (gms N rs i).length = offs N rs i
  | 0 => rfl
  | i + 1 => by unfold gms offs; rw [List.length_append, gms_len N rs i]; simp
theorem gms_at {N : Nat} {rs : List (List Int)} : ∀ {m g : Nat}, g < offs N rs m → ∃ i j, i < m ∧ j < idx (rw_ rs i) N ∧ g = offs N rs i + j ∧ rw_ (gms N rs m) g = [(i : Int), rd (rw_ (prs (rw_ rs i) N) j) 0, rd (rw_ (prs (rw_ rs i) N) j) 1]
  | 0, g, h => absurd h (Nat.not_lt_zero _)
  | m + 1, g, h => by
    by_cases hg : g < offs N rs m
    · obtain ⟨i, j, h1, h2, h3, h4⟩ := gms_at hg
      refine ⟨i, j, by omega, h2, h3, ?_⟩
      unfold gms
      rw [rw_app_l (by rw [gms_len]; exact hg)]; exact h4
    · have h' : g < offs N rs m + idx (rw_ rs m) N := h
      refine ⟨m, g - offs N rs m, by omega, by omega, by omega, ?_⟩
      have e : g = (gms N rs m).length + (g - offs N rs m) := by rw [gms_len]; omega
      unfold gms
      rw [e, rw_app_r, rw_map (by omega), gms_len]
      simp only [Nat.add_sub_cancel_left]

/-! what the program computes -/
def rX (N : Nat) (rs : List (List Int)) (b i : Nat) : List Int := rowX N (rw_ rs i) (fun j => bt b (offs N rs i + j))
def tabX (N : Nat) (rs : List (List Int)) (b : Nat) : List (List Int) := (List.range rs.length).map (rX N rs b)
def tabK (N : Nat) (rs : List (List Int)) (b : Nat) (V : List (List Int)) (g : Nat) : List (List Int) := (List.range rs.length).map fun i => rowK N (rw_ rs i) (fun j => bt b (offs N rs i + j)) (rd (rw_ V i)) (g - offs N rs i)
def tabOk (N : Nat) (rs V : List (List Int)) : Prop := V.length = rs.length ∧ ∀ i, i < rs.length → (rw_ V i).length = N ∧ ∀ a, a < N → rd (rw_ rs i) a = (a : Int) → rd (rw_ V i) a = -1
theorem tabK_len (N : Nat) (rs : List (List Int)) (b : Nat) (V : List (List Int)) (g : Nat) : (tabK N rs b V g).length = rs.length := by simp [tabK]
theorem tabK_rw {N : Nat} {rs : List (List Int)} {b : Nat} {V : List (List Int)} {g i : Nat} (h : i < rs.length) : rw_ (tabK N rs b V g) i = rowK N (rw_ rs i) (fun j => bt b (offs N rs i + j)) (rd (rw_ V i)) (g - offs N rs i) := by unfold tabK; rw [rw_map h]
theorem tabK_zero {N : Nat} {rs : List (List Int)} {b : Nat} {V : List (List Int)} (hV : tabOk N rs V) : tabK N rs b V 0 = V := by
  refine rows_ext (by rw [tabK_len, hV.1]) fun i hi => ?_
  rw [tabK_len] at hi
  rw [tabK_rw hi, Nat.zero_sub, rowK_zero (hV.2 i hi).1]
theorem tabX_ok {N : Nat} {rs : List (List Int)} {b : Nat} : tabOk N rs (tabX N rs b) := by
  refine ⟨by simp [tabX], fun i hi => ?_⟩
  unfold tabX; rw [rw_map hi]
  exact ⟨rowX_len .., fun a ha h => rowX_free ha h⟩
theorem tabK_full {N : Nat} {rs : List (List Int)} {b : Nat} {V : List (List Int)} (hr : ∀ i, i < rs.length → rndOk N (rw_ rs i)) (hV : tabOk N rs V) : tabK N rs b V (offs N rs rs.length) = tabX N rs b := by
  refine rows_ext (by rw [tabK_len]; simp [tabX]) fun i hi => ?_
  rw [tabK_len] at hi
  have h1 : offs N rs (i + 1) ≤ offs N rs rs.length := offs_le (by omega)
  have h2 : offs N rs (i + 1) = offs N rs i + idx (rw_ rs i) N := rfl
  rw [tabK_rw hi]; unfold tabX; rw [rw_map hi]
  exact rowK_full (hr i hi) (by omega) (hV.2 i hi).2 (fun _ _ => rfl)
theorem rowK_cap {N : Nat} {r : List Int} {x v : Nat → Int} {k : Nat} (hr : rndOk N r) (hk : idx r N ≤ k) : rowK N r x v k = rowK N r x v (idx r N) := by
  refine ext_rd (by simp [rowK_len]) fun c hc => ?_
  rw [rowK_len] at hc
  rw [rowK_rd hc, rowK_rd hc]
  by_cases h1 : (c : Int) < rd r c
  · have := idx_lt h1 hc
    rw [if_pos h1, if_pos h1, if_pos (by omega), if_pos this]
  · rw [if_neg h1, if_neg h1]
    by_cases h3 : rd r c < (c : Int)
    · obtain ⟨d0, d1, d2⟩ := hr c hc
      have := idx_lt (r := r) (a := (rd r c).toNat) (c := N) (by rw [d2]; omega) (by omega)
      rw [if_pos h3, if_pos h3, if_pos (by omega), if_pos this]
    · rw [if_neg h3, if_neg h3]
theorem tabK_step {N : Nat} {rs : List (List Int)} {b : Nat} {V : List (List Int)} {i j a : Nat} (hi : i < rs.length) (hr : ∀ i, i < rs.length → rndOk N (rw_ rs i)) (ha : a < N) (hp : (a : Int) < rd (rw_ rs i) a) (hj : idx (rw_ rs i) a = j) (hj' : j < idx (rw_ rs i) N) :
    (tabK N rs b V (offs N rs i + j)).set i (((rw_ (tabK N rs b V (offs N rs i + j)) i).set a (bt b (offs N rs i + j))).set (rd (rw_ rs i) a).toNat (1 - bt b (offs N rs i + j))) = tabK N rs b V (offs N rs i + j + 1) := by
  refine rows_ext (by rw [List.length_set, tabK_len, tabK_len]) fun c hc => ?_
  have hc' : c < rs.length := by simpa [tabK_len] using hc
  rw [rw_set' (by rw [tabK_len]; exact hi)]
  by_cases e : i = c
  · subst e
    rw [if_pos rfl, tabK_rw hi, tabK_rw hi, Nat.add_sub_cancel_left, rowK_step (x := fun j => bt b (offs N rs i + j)) (hr i hi) ha hp hj]
    congr 1; omega
  · rw [if_neg e, tabK_rw hc', tabK_rw hc']
    rcases Nat.lt_or_gt_of_ne e with h | h
    · have h1 : offs N rs (i + 1) ≤ offs N rs c := offs_le (by omega)
      have h2 : offs N rs (i + 1) = offs N rs i + idx (rw_ rs i) N := rfl
      congr 1; omega
    · have h1 : offs N rs (c + 1) ≤ offs N rs i := offs_le (by omega)
      have h2 : offs N rs (c + 1) = offs N rs c + idx (rw_ rs c) N := rfl
      rw [rowK_cap (hr c hc') (k := offs N rs i + j - offs N rs c) (by omega), rowK_cap (hr c hc') (k := offs N rs i + j + 1 - offs N rs c) (by omega)]

theorem isSch_rnd {n : Int} {rs : List (List Int)} (h : isSch n rs = true) : ∀ i, i < rs.length → rndOk n.toNat (rw_ rs i) := fun i hi => rndOk_of (isSch_of h).1 (isSch_all h _ (rw_mem hi))
theorem games_D {fu : Nat} (hf : Big fu) {n : Int} (hn : 2 ≤ n ∧ n ≤ 14) {rs : List (List Int)} (hl : rs.length ≤ 40) : loopF (D_impl_FewestBreaks_s0 fu n rs) fu ([], 0) = some (gms n.toNat rs rs.length) := by
  have hf' := hf
  unfold Big at hf
  rw [loop_seq (fun i => (gms n.toNat rs i, (i : Int))) rs.length (gms n.toNat rs rs.length) (by omega) ?_ ?_ (s := ([], 0)) rfl]
  · intro i hi
    have b1 := offs_bound n.toNat rs i
    have b2 : n.toNat * i ≤ 14 * 40 := Nat.mul_le_mul (by omega) (by omega)
    have b3 := gms_len n.toNat rs i
    have b4 := idx_le (rw_ rs i) n.toNat
    have b5 : (prs (rw_ rs i) n.toNat).length = idx (rw_ rs i) n.toNat := rfl
    unfold D_impl_FewestBreaks_s0
    dsimp only
    rw [bif_dt (by omega), chk_inR (by omega) (by omega), Int.toNat_natCast, pairs_D hf' ⟨by omega, by omega⟩, Option.bind_some]
    rw [loop_seq (fun k => (gms n.toNat rs i ++ (List.range k).map (fun k => [(i : Int), rd (rw_ (prs (rw_ rs i) n.toNat) k) 0, rd (rw_ (prs (rw_ rs i) n.toNat) k) 1]), (k : Int))) (idx (rw_ rs i) n.toNat) (gms n.toNat rs (i + 1)) (by omega) ?_ ?_ (s := (gms n.toNat rs i, 0)) (by simp), Option.bind_some]
    · rw [chk_in64 (by omega) (by omega)]; rfl
    · intro k hk
      have h2 : (rw_ (prs (rw_ rs i) n.toNat) k).length = 2 := prs_two _ _ _ (rw_mem hk)
      unfold D_impl_FewestBreaks_s1
      dsimp only
      rw [bif_dt (by rw [b5]; omega), chk_inR (by omega) (by rw [b5]; omega), Int.toNat_natCast, h2, chk_inR (by omega) (by omega), chk_inR (by omega) (by omega), chk_le (by simp; omega), chk_in64 (by omega) (by omega), List.append_assoc, range_app' (fun k => [(i : Int), rd (rw_ (prs (rw_ rs i) n.toNat) k) 0, rd (rw_ (prs (rw_ rs i) n.toNat) k) 1])]; rfl
    · unfold D_impl_FewestBreaks_s1
      dsimp only
      rw [bif_df (by rw [b5]; omega)]; rfl
  · unfold D_impl_FewestBreaks_s0
    simp (disch := omega) only [bif_df]
theorem table_D {fu : Nat} (hf : Big fu) {n : Int} {rs : List (List Int)} {b : Nat} {V W : List (List Int)} (hb : b < 65536) (hr : ∀ i, i < rs.length → rndOk n.toNat (rw_ rs i)) (hK : offs n.toNat rs rs.length ≤ 15) (hV : tabOk n.toNat rs V) (hW : W.length = rs.length) :
    loopF (D_impl_FewestBreaks_s3 fu (gms n.toNat rs rs.length) W b) fu (V, 0) = some (tabX n.toNat rs b) := by
  unfold Big at hf
  have hg := gms_len n.toNat rs rs.length
  rw [loop_seq (fun g => (tabK n.toNat rs b V g, (g : Int))) (offs n.toNat rs rs.length) (tabX n.toNat rs b) (by omega) ?_ ?_ (s := (V, 0)) (by rw [tabK_zero hV]; rfl)]
  · intro g hgl
    obtain ⟨i, j, h1, h2, h3, h4⟩ := gms_at hgl
    obtain ⟨a, a1, a2, a3, a4⟩ := prs_at h2
    obtain ⟨b0, b1, b2⟩ := hr i h1 a a1
    rw [a4] at h4
    have e0 : rd [(i : Int), rd [(a : Int), rd (rw_ rs i) a] 0, rd [(a : Int), rd (rw_ rs i) a] 1] 0 = i := rfl
    have e1 : rd [(i : Int), rd [(a : Int), rd (rw_ rs i) a] 0, rd [(a : Int), rd (rw_ rs i) a] 1] 1 = a := rfl
    have e2 : rd [(i : Int), rd [(a : Int), rd (rw_ rs i) a] 0, rd [(a : Int), rd (rw_ rs i) a] 1] 2 = rd (rw_ rs i) a := rfl
    have hbt := bt_le b g
    have hst := tabK_step (b := b) (V := V) h1 hr a1 a2 a3 h2
    rw [← h3] at hst
    have hrl : (rw_ (tabK n.toNat rs b V g) i).length = n.toNat := by rw [tabK_rw h1, rowK_len]
    unfold D_impl_FewestBreaks_s3
    dsimp only
    rw [hg, Int.toNat_natCast, h4, e0, e1, e2, Int.toNat_natCast, Int.toNat_natCast, hrl, hW, iand_bt hb (by omega), List.set_set, hst]
    simp (disch := omega) only [bif_dt, chk_inR, chk_t, chk_in64]; rfl
  · unfold D_impl_FewestBreaks_s3
    dsimp only
    rw [bif_df (by rw [hg]; omega), tabK_full hr hV]
def cB (N : Nat) (rs : List (List Int)) (b : Nat) : Int := (cs (rX N rs b) N rs.length : Nat)
theorem cB_le {n : Int} (hn : 2 ≤ n ∧ n ≤ 14) {rs : List (List Int)} (hl : rs.length ≤ 40) (b : Nat) : 0 ≤ cB n.toNat rs b ∧ cB n.toNat rs b ≤ 560 := by
  have h1 := cs_le (rX n.toNat rs b) n.toNat rs.length
  have b2 : n.toNat * rs.length ≤ 14 * 40 := Nat.mul_le_mul (by omega) (by omega)
  unfold cB; omega
def Vt (n : Int) (rs : List (List Int)) : Nat → List (List Int)
  | 0 => rs.map (fvRow n)
  | b + 1 => tabX n.toNat rs b
theorem Vt_ok (n : Int) (rs : List (List Int)) : ∀ b, tabOk n.toNat rs (Vt n rs b)
  | 0 => by
    refine ⟨List.length_map .., fun i hi => ?_⟩
    have e : rw_ (Vt n rs 0) i = fvRow n (rw_ rs i) := by
      show rw_ (rs.map (fvRow n)) i = _
      simp [rw_, List.getD_eq_getElem?_getD, List.getElem?_eq_getElem hi]
    rw [e]
    refine ⟨fvRow_len .., fun a ha h => ?_⟩
    unfold fvRow; rw [rd_map ha]; unfold fv1; rw [if_pos h.symm]
  | b + 1 => tabX_ok
theorem search_D {fu : Nat} (hf : Big fu) {n : Int} (hn : 2 ≤ n ∧ n ≤ 14) {rs : List (List Int)} (hl : rs.length ≤ 40) (hr : ∀ i, i < rs.length → rndOk n.toNat (rw_ rs i)) (hK : offs n.toNat rs rs.length ≤ 15) :
    loopF (D_impl_FewestBreaks_s2 fu n (gms n.toNat rs rs.length) (rs.map (fvRow n))) fu (rs.map (fvRow n), -1, 0) = some (minTo (cB n.toNat rs) (2 ^ offs n.toNat rs rs.length)) := by
  have hf' := hf
  unfold Big at hf
  have h2 : 2 ^ offs n.toNat rs rs.length ≤ 2 ^ 15 := Nat.pow_le_pow_right (by omega) hK
  have h3 : (2 : Nat) ^ 15 = 32768 := rfl
  have hpos : 0 < 2 ^ offs n.toNat rs rs.length := Nat.pow_pos (by omega)
  have hg := gms_len n.toNat rs rs.length
  rw [loop_seq (fun b => (Vt n rs b, (if b = 0 then -1 else minTo (cB n.toNat rs) b : Int), (b : Int))) (2 ^ offs n.toNat rs rs.length) (minTo (cB n.toNat rs) (2 ^ offs n.toNat rs rs.length)) (by omega) ?_ ?_ (s := (rs.map (fvRow n), -1, 0)) rfl]
  · intro b hb
    have hX : tabOk n.toNat rs (tabX n.toNat rs b) := tabX_ok
    have hcb := cB_le hn hl b
    have hm := minTo_le (c := cB n.toNat rs) (m := b) (b := 560) (by omega) fun k _ => cB_le hn hl k
    obtain ⟨xs, x1, x2, x3, x4⟩ := iBreaks_D hf' (n := n) ⟨by omega, by omega⟩ (T := tabX n.toNat rs b) (fun i hi => (hX.2 i (by rw [hX.1] at hi; exact hi)).1) (by rw [hX.1]; exact hl)
    have e : xs.sum = cB n.toNat rs b := by
      rw [x4, hX.1]; unfold cB
      rw [cs_congr (R := rw_ (tabX n.toNat rs b)) (R' := rX n.toNat rs b) fun j hj => by unfold tabX; rw [rw_map hj]]
    unfold D_impl_FewestBreaks_s2
    dsimp only
    rw [hg, ishl_one hK, bif_dt (by omega), table_D hf' (by omega) hr hK (Vt_ok n rs b) (List.length_map ..), Option.bind_some, x1, Option.bind_some, iTotal_D hf' (by omega) x3 (by omega), Option.bind_some, e]
    by_cases h0 : b = 0
    · subst h0
      rw [if_pos rfl, if_neg (by omega)]
      show (bif true || _ then _ else _) = _
      rw [Bool.true_or, bif_true, chk_in64 (by omega) (by omega)]
      rfl
    · rw [if_neg h0, if_neg (by omega), decide_eq_false (by omega), Bool.false_or]
      show _ = some (Lo.go (tabX n.toNat rs b, (if b = 0 ∨ cB n.toNat rs b < minTo (cB n.toNat rs) b then cB n.toNat rs b else minTo (cB n.toNat rs) b), ((b + 1 : Nat) : Int)))
      by_cases h1 : cB n.toNat rs b < minTo (cB n.toNat rs) b
      · rw [bif_dt h1, if_pos (.inr h1), chk_in64 (by omega) (by omega)]; rfl
      · rw [bif_df h1, if_neg (by omega), chk_in64 (by omega) (by omega)]; rfl
  · unfold D_impl_FewestBreaks_s2
    dsimp only
    rw [hg, ishl_one hK, bif_df (by omega), if_neg (by omega)]
def fewest (n : Int) (rs : List (List Int)) : Int × Int := if isSch n rs then if 15 < offs n.toNat rs rs.length then (0, 3) else (minTo (cB n.toNat rs) (2 ^ offs n.toNat rs rs.length), 0) else (0, 1)
theorem iFew_D {fu : Nat} (hf : Big fu) (n : Int) {rs : List (List Int)} (hA : All 14 rs) (hl : rs.length ≤ 4294967296) : D_impl_FewestBreaks fu n rs = some (fewest n rs) := by
  unfold D_impl_FewestBreaks fewest
  rw [scheduleCode_D hf n hA hl (b := true) (fun _ => rfl), Option.bind_some]
  cases h : isSch n rs with
  | false => rfl
  | true =>
    obtain ⟨hn, h40⟩ := isSch_of h
    have hg := gms_len n.toNat rs rs.length
    rw [if_pos rfl, if_pos rfl, if_pos rfl, bif_nt rfl, games_D hf hn h40, Option.bind_some, hg]
    by_cases hK : 15 < offs n.toNat rs rs.length
    · rw [bif_dt (by omega), if_pos hK]
    · rw [bif_df (by omega), if_neg hK, firstVenues_D hf ⟨by omega, by omega⟩ h40, Option.bind_some, chk_t (by omega), search_D hf hn h40 (isSch_rnd h) (by omega)]; rfl
end Go.Proofs.Ytdafmafigcljkaa

