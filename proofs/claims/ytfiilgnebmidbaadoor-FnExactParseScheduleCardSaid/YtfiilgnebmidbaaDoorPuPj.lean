/-
  ParseSchedule: reference and program compute it; the law. Plain Lean, no program, no condition.
-/
import Derived.Test.YtfiilgnebmidbaaDoorDG
import Derived.Test.YtfiilgnebmidbaaDoorDH
import Derived.Test.YtfiilgnebmidbaaDoorDI
import Derived.Test.YtfiilgnebmidbaaDoorDV
import Derived.Test.YtfiilgnebmidbaaDoorPuPi
import Derived.Test.YtfiilgnebmidbaaDoorPuPq
namespace Go.Proofs.YtfiilgnebmidbaaDoor
open Go Am
set_option linter.unusedVariables false
set_option linter.unusedSimpArgs false

theorem e0n : (⟨#[]⟩ : ByteArray) = toB [] := rfl
theorem sPairsP {fu : Nat} (hf : Big fu) {t : List UInt8} (ht : t.length ≤ 1500000) : loopF (D_spec_l01ReadRound_s0 fu ((spl 44 t).map toB)) fu ([], 0) = some (sumO (List.replicate 14 0, false) (mpO prL (spl 44 t))) := by
  have hl := spl_le 44 t
  have hsub := spl_sub 44 t
  refine loop_mpO (fu := fu) (l := spl 44 t) (f := prL) (by unfold Big at hf; omega) ?_ ?_
  · intro k acc x ha hx
    have hk : k < (spl 44 t).length := (List.getElem?_eq_some_iff.1 hx).1
    have hxm := hsub x (List.mem_of_getElem? hx)
    unfold D_spec_l01ReadRound_s0; dsimp only
    rw [List.length_map, bif_dt (by omega), chk_inR (by omega) (by omega), Int.toNat_natCast, rds_map hx]
    show (D_spec_l01Split fu (toB x) ((45 : UInt8).toNat : Int)).bind _ = _
    rw [l01Split_D hf 45 (by omega), Option.bind_some]
    unfold prL
    have hs2 := spl_sub 45 x
    generalize spl 45 x = ws at hs2 ⊢
    match ws, hs2 with
    | [], _ => rfl
    | [a], _ => rfl
    | a :: b :: c :: r, _ =>
      rw [List.length_map, bif_nf (by simp; omega)]
    | [a, b], hs2 =>
      have ha' := hs2 a (by simp)
      have hb' := hs2 b (by simp)
      rw [List.length_map, bif_nt (by simp), chk_inR (by omega) (by simp)]
      show ((D_spec_l01Number fu (toB a)).bind _) = _
      rw [l01Number_D hf (by omega), Option.bind_some, chk_inR (by omega) (by simp)]
      show ((D_spec_l01Number fu (toB b)).bind _) = _
      rw [l01Number_D hf (by omega), Option.bind_some, chk_le (by omega), chk_in64 (by omega) (by omega)]; rfl
  · intro acc
    unfold D_spec_l01ReadRound_s0; dsimp only
    rw [List.length_map, bif_df (by omega)]
theorem pairsS_len {t : List UInt8} {ps : List (List Int)} (h : pairsS t = some ps) : ps.length ≤ t.length + 1 := by
  unfold pairsS at h
  split at h
  · cases h; simp
  · have := mpO_len h
    have h2 := spl_le 44 t
    omega
theorem pairsI_len (t : List UInt8) : (pairsI t).length ≤ t.length + 1 := by
  unfold pairsI
  split
  · simp
  · rw [List.length_map]; exact spl_le 44 t
theorem sRoundP {fu : Nat} (hf : Big fu) (n : Int) {t : List UInt8} (ht : t.length ≤ 1500000) : ∃ x b, D_spec_l01ReadRound fu n (toB t) = some (x, b) ∧ rndS n t = if b then some x else none := by
  have key : ∀ ps : List (List Int), ps.length ≤ 2000000 → ∃ x b, ((D_spec_RoundOf fu n ps).bind fun (xs724, x725) =>
      (bif decide (x725 = 0) then ((D_spec_l01RoundText fu n xs724).bind fun s755 => some ((s755 : ByteArray).toList == (toB t : ByteArray).toList)) else (some false)).bind fun b749 => some (xs724, b749)) = some (x, b) ∧
      (if decide ((roundOf n ps).2 = 0) && decide (rndT n (roundOf n ps).1 = t) then some (roundOf n ps).1 else none) = if b then some x else none := fun ps hps => by
    rw [sRoundOf_D hf n ps (by omega), Option.bind_some]
    dsimp only
    by_cases h : (roundOf n ps).2 = 0
    · rw [bif_dt h, sRnd hf (roundOf_rnd h), Option.bind_some, Option.bind_some, toB_list, decide_eq_true h, Bool.true_and]
      exact ⟨_, _, rfl, rfl⟩
    · rw [bif_df h, Option.bind_some, decide_eq_false h]
      exact ⟨_, _, rfl, rfl⟩
  unfold D_spec_l01ReadRound rndS pairsS
  rw [e0n, toB_list]
  by_cases h : t = []
  · rw [decide_eq_true h, if_pos h, Bool.not_true, bif_false, Option.bind_some]
    exact key [] (by simp)
  · rw [decide_eq_false h, if_neg h, Bool.not_false, bif_true]
    have e : D_spec_l01Split fu (toB t) 44 = some ((spl 44 t).map toB) := l01Split_D hf 44 (by omega)
    rw [e, Option.bind_some, sPairsP hf ht, Option.bind_some]
    cases hm : mpO prL (spl 44 t) with
    | none => exact ⟨List.replicate 14 0, false, rfl, rfl⟩
    | some ps =>
      have hps : ps.length ≤ 2000000 := by
        have := mpO_len hm
        have h2 := spl_le 44 t
        omega
      dsimp only [sumO]
      rw [Option.bind_some]
      exact key ps hps
theorem sRoundsP {fu : Nat} (hf : Big fu) (n : Int) {b : List UInt8} (hb : b.length ≤ 1500000) : loopF (D_spec_l01Read_s0 fu n ((spl 59 b).map toB)) fu ([], 0) = some (sumO (0, [], false) (mpO (rndS n) (spl 59 b))) := by
  have hl := spl_le 59 b
  have hsub := spl_sub 59 b
  refine loop_mpO (fu := fu) (l := spl 59 b) (f := rndS n) (by unfold Big at hf; omega) ?_ ?_
  · intro k acc x ha hx
    have hk : k < (spl 59 b).length := (List.getElem?_eq_some_iff.1 hx).1
    have hxm := hsub x (List.mem_of_getElem? hx)
    obtain ⟨y, t, e1, e2⟩ := sRoundP hf n (t := x) (by omega)
    unfold D_spec_l01Read_s0; dsimp only
    rw [List.length_map, bif_dt (by omega), chk_inR (by omega) (by omega), Int.toNat_natCast, rds_map hx, e1, Option.bind_some, e2]
    cases t with
    | false => rfl
    | true =>
      dsimp only
      rw [Bool.not_true, bif_false, chk_le (by omega), chk_in64 (by omega) (by omega), if_pos rfl]; rfl
  · intro acc
    unfold D_spec_l01Read_s0; dsimp only
    rw [List.length_map, bif_df (by omega)]
theorem sSched_D {fu : Nat} (hf : Big fu) {l : List UInt8} (hl : l.length ≤ 1048576) : D_spec_ParseSchedule fu (toB l) = some (schS l) := by
  unfold D_spec_ParseSchedule D_spec_l01Read schS
  have e : D_spec_l01Split fu (toB l) 58 = some ((spl 58 l).map toB) := l01Split_D hf 58 (by omega)
  rw [e, Option.bind_some]
  have hsub := spl_sub 58 l
  generalize spl 58 l = ws at hsub ⊢
  match ws, hsub with
  | [], _ => rfl
  | [a], _ => rfl
  | a :: b :: c :: r, _ =>
    rw [List.length_map, bif_nf (by simp; omega)]; rfl
  | [a, b], hsub =>
    have ha := hsub a (by simp)
    have hb := hsub b (by simp)
    have e1 : D_spec_l01Number fu (rds ([a, b].map toB) 0) = some (sNum a) := l01Number_D hf (by omega)
    have e2 : D_spec_l01Split fu (rds ([a, b].map toB) 1) 59 = some ((spl 59 b).map toB) := l01Split_D hf 59 (by omega)
    rw [List.length_map, bif_nt (by simp), chk_inR (by omega) (by simp), e1, Option.bind_some, chk_inR (by omega) (by simp), e2, Option.bind_some, sRoundsP hf _ (by omega), Option.bind_some]
    dsimp only
    cases hm : mpO (rndS (sNum a)) (spl 59 b) with
    | none => rfl
    | some rs =>
      have hA : All 14 rs := fun r hr => by
        obtain ⟨t, _, e⟩ := mpO_mem hm r hr
        exact rndS_len e
      have h1 := mpO_len hm
      have h2 := spl_le 59 b
      dsimp only [sumO]
      rw [l01Is_D hf _ hA (by omega), Option.bind_some, Option.bind_some]
      cases isSch (sNum a) rs <;> rfl
theorem iPairsP {fu : Nat} (hf : Big fu) {b t : List UInt8} {i : Nat} (hi : (spl 59 b)[i]? = some t) (ht : t.length ≤ 1500000) : loopF (D_impl_ParseSchedule_s1 fu ((spl 59 b).map toB) (i : Int) ((spl 44 t).map toB)) fu ([], 0) = some (pairsI t) := by
  have hl := spl_le 44 t
  have hsub := spl_sub 44 t
  refine loop_seq (fun k => (if t = [] then [] else ((spl 44 t).map prI).take k, (k : Int))) (spl 44 t).length _ (by unfold Big at hf; omega) ?_ ?_ (by simp)
  · intro k hk
    have hx : (spl 44 t)[k]? = some (spl 44 t)[k] := List.getElem?_eq_getElem hk
    generalize (spl 44 t)[k] = x at hx
    have hxm := hsub x (List.mem_of_getElem? hx)
    unfold D_impl_ParseSchedule_s1; dsimp only
    rw [List.length_map, bif_dt (by omega), chk_inR (by omega) (by omega), Int.toNat_natCast, Int.toNat_natCast, rds_map hx, rds_map hi, e45, Cut_D 45 (by omega), Option.bind_some]
    dsimp only
    rw [e0n, toB_list]
    by_cases h : t = []
    · rw [decide_eq_true h, if_pos h, if_pos h, Bool.not_true, bif_false, chk_in64 (by omega) (by omega)]; rfl
    · have hc := fun a b t (h : Go.Lib.cut x [45] = (a, b, t)) => cut_le h
      have ht' : ((spl 44 t).map prI).take (k + 1) = ((spl 44 t).map prI).take k ++ [prI x] := take_app (by rw [List.getElem?_map, hx]; rfl)
      rw [decide_eq_false h, if_neg h, if_neg h, Bool.not_false, bif_true, ht']
      unfold prI
      generalize Go.Lib.cut x [45] = w at hc ⊢
      obtain ⟨p, q, s⟩ := w
      obtain ⟨hp, hq⟩ := hc p q s rfl
      dsimp only
      rw [readNumber_D (by omega), Option.bind_some, readNumber_D (by omega), Option.bind_some, chk_le (by rw [List.length_take, List.length_map]; omega), chk_in64 (by omega) (by omega)]; rfl
  · unfold D_impl_ParseSchedule_s1; dsimp only
    rw [List.length_map, bif_df (by omega)]
    unfold pairsI
    rw [List.take_of_length_le (by rw [List.length_map]; omega)]
theorem iRoundsP {fu : Nat} (hf : Big fu) (n : Int) {b : List UInt8} (hb : b.length ≤ 1500000) : loopF (D_impl_ParseSchedule_s0 fu n ((spl 59 b).map toB)) fu ([], 0) = some (sumO (0, [], 6) (mpO (rndI n) (spl 59 b))) := by
  have hl := spl_le 59 b
  have hsub := spl_sub 59 b
  refine loop_mpO (fu := fu) (l := spl 59 b) (f := rndI n) (by unfold Big at hf; omega) ?_ ?_
  · intro k acc x ha hx
    have hk : k < (spl 59 b).length := (List.getElem?_eq_some_iff.1 hx).1
    have hxm := hsub x (List.mem_of_getElem? hx)
    have hpl := pairsI_len x
    unfold D_impl_ParseSchedule_s0; dsimp only
    rw [List.length_map, bif_dt (by omega), chk_inR (by omega) (by omega), Int.toNat_natCast, rds_map hx, e44, Split_D 44 (by omega), Option.bind_some, iPairsP hf hx (by omega), Option.bind_some, iRoundOf_D hf n _ (by omega), Option.bind_some]
    unfold rndI
    by_cases h : (roundOf n (pairsI x)).2 = 0
    · rw [bif_nt h, if_pos h, chk_le (by omega), chk_in64 (by omega) (by omega)]; rfl
    · rw [bif_nf h, if_neg h]
  · intro acc
    unfold D_impl_ParseSchedule_s0; dsimp only
    rw [List.length_map, bif_df (by omega)]
theorem iSched_D {fu : Nat} (hf : Big fu) {l : List UInt8} (hl : l.length ≤ 1048576) : D_impl_ParseSchedule fu (toB l) = some (schI l) := by
  unfold D_impl_ParseSchedule schI
  rw [e58, Cut_D 58 (by omega), Option.bind_some]
  have hc := fun a b t (h : Go.Lib.cut l [58] = (a, b, t)) => cut_le h
  generalize Go.Lib.cut l [58] = w at hc ⊢
  obtain ⟨a, b, t⟩ := w
  obtain ⟨ha, hb⟩ := hc a b t rfl
  dsimp only
  rw [readNumber_D (by omega), Option.bind_some, e59, Split_D 59 (by omega), Option.bind_some, iRoundsP hf _ (by omega), Option.bind_some]
  cases hm : mpO (rndI (rdNum (toB a))) (spl 59 b) with
  | none => rfl
  | some rs =>
    have hA : All 14 rs := fun r hr => by
      obtain ⟨t, _, e⟩ := mpO_mem hm r hr
      exact rndI_len e
    have h1 := mpO_len hm
    have h2 := spl_le 59 b
    dsimp only [sumO]
    rw [IsSchedule_D hf _ hA (by omega), Option.bind_some]
    cases hs : isSch (rdNum (toB a)) rs with
    | false => rfl
    | true =>
      rw [Bool.not_true, bif_false, iSch hf hs, Option.bind_some, Option.bind_some, toB_list, Bool.true_and]
      by_cases h : schT (rdNum (toB a)) rs = l
      · rw [decide_eq_true h]; rfl
      · rw [decide_eq_false h]; rfl
theorem parseSch_law {fu : Nat} (hf : Big fu) {a : ByteArray} : D_laws_FnExactParseSchedule fu a = some true := by
  obtain ⟨l, rfl⟩ : ∃ l, a = toB l := ⟨a.data.toList, (toB_data2 a).symm⟩
  unfold D_laws_FnExactParseSchedule
  by_cases hl : 1048576 < ((toB l).size : Int)
  · rw [bif_dt hl]
  · rw [toB_size] at hl
    have e1 := sSched_D hf (l := l) (by omega)
    have e2 := iSched_D hf (l := l) (by omega)
    rw [sch_same] at e2
    have hs := schS_small l
    generalize schS l = w at e1 e2 hs
    obtain ⟨n, rs, c⟩ := w
    dsimp only at hs
    obtain ⟨hl', hA⟩ := hs
    have h1 := tot14 hA
    rw [bif_df (by rw [toB_size]; omega), e1, Option.bind_some]
    simp (disch := omega) only [e2, Option.bind_some, eqSchedule_D hf hA hA, decide_true, Bool.and_true, Bool.not_true, bif_false, markSchedule_D hf hA, heldSchedule_D hf hA, bif_df, bif_nt]
end Go.Proofs.YtfiilgnebmidbaaDoor

