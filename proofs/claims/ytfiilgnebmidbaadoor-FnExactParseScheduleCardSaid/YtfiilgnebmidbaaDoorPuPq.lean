/-
  ParseSquare: reference and program compute it; the law. Plain Lean, no program, no condition.
-/
import Derived.Test.YtfiilgnebmidbaaDoorDH
import Derived.Test.YtfiilgnebmidbaaDoorDM
import Derived.Test.YtfiilgnebmidbaaDoorDZ
import Derived.Test.YtfiilgnebmidbaaDoorPuPg
namespace Go.Proofs.YtfiilgnebmidbaaDoor
open Go Am
set_option linter.unusedVariables false
set_option linter.unusedSimpArgs false

theorem toB_list {a b : List UInt8} : ((toB a).toList == (toB b).toList) = decide (a = b) := by
  have e : ∀ l : List UInt8, (toB l).toList = l := fun l => by
    rw [Go.Lib.toList_data]; exact toB_data l
  rw [e, e]
  by_cases h : a = b
  · rw [decide_eq_true h, h]; simp
  · rw [decide_eq_false h]; simpa using h
def l04C (o : Option Int) : Int × Bool := match o with
  | some c => (c, true)
  | none => (0, false)
theorem l04Cell_P {fu : Nat} (hf : Big fu) {l : List UInt8} (hl : l.length ≤ 2000000) : D_spec_l04Cell fu (toB l) = some (l04C (cellS l)) := by
  unfold D_spec_l04Cell cellS
  rw [e46, toB_list]
  by_cases h : l = [46]
  · rw [bif_dt h, if_pos h]; rfl
  · rw [bif_df h, if_neg h]
    show (D_spec_l01Split fu (toB l) ((45 : UInt8).toNat : Int)).bind _ = _
    rw [l01Split_D hf 45 hl, Option.bind_some]
    unfold prS
    have hsub := spl_sub 45 l
    generalize spl 45 l = ws at hsub ⊢
    match ws, hsub with
    | [], _ => rfl
    | [a], _ => rfl
    | a :: b :: c :: r, _ =>
      rw [List.length_map, bif_nf (by simp; omega)]; rfl
    | [a, b], hsub =>
      have ha := hsub a (by simp)
      have hb := hsub b (by simp)
      rw [List.length_map, bif_nt (by simp), chk_inR (by omega) (by simp)]
      show ((D_spec_l01Number fu (toB a)).bind _) = _
      rw [l01Number_D hf (by omega), Option.bind_some, chk_inR (by omega) (by simp)]
      show ((D_spec_l01Number fu (toB b)).bind _) = _
      rw [l01Number_D hf (by omega), Option.bind_some, l01In_D, Option.bind_some]
      dsimp only [sumO]
      cases h1 : inB (sNum a) 0 13 with
      | false => rfl
      | true =>
        rw [l01In_D, Bool.not_true, bif_false, Option.bind_some]
        cases h2 : inB (sNum b) 0 13 with
        | false => rfl
        | true =>
          have g1 := inB_of h1
          have g2 := inB_of h2
          rw [Option.bind_some, Bool.not_true, bif_false, chk_in64 (by omega) (by omega), chk_in64 (by omega) (by omega)]; rfl
theorem sRowP {fu : Nat} (hf : Big fu) {t : List UInt8} (ht : t.length ≤ 1500000) : loopF (D_spec_ParseSquare_s1 fu ((spl 44 t).map toB)) fu ([], 0) = some (sumO (0, [], 6) (mpO cellS (spl 44 t))) := by
  have hl := spl_le 44 t
  have hsub := spl_sub 44 t
  refine loop_mpO (fu := fu) (l := spl 44 t) (f := cellS) (by unfold Big at hf; omega) ?_ ?_
  · intro k acc x ha hx
    have hk : k < (spl 44 t).length := (List.getElem?_eq_some_iff.1 hx).1
    have hxm := hsub x (List.mem_of_getElem? hx)
    unfold D_spec_ParseSquare_s1; dsimp only
    rw [List.length_map, bif_dt (by omega), chk_inR (by omega) (by omega), Int.toNat_natCast, rds_map hx, l04Cell_P hf (by omega), Option.bind_some]
    cases hc : cellS x with
    | none => rfl
    | some c => 
      show (bif !true then _ else _) = _
      rw [Bool.not_true, bif_false, chk_le (by omega), chk_in64 (by omega) (by omega)]; rfl
  · intro acc
    unfold D_spec_ParseSquare_s1; dsimp only
    rw [List.length_map, bif_df (by omega)]
theorem sRowsP {fu : Nat} (hf : Big fu) {b : List UInt8} (hb : b.length ≤ 1500000) : loopF (D_spec_ParseSquare_s0 fu ((spl 59 b).map toB)) fu ([], 0) = some (sumO (0, [], 6) (mpO (fun t => mpO cellS (spl 44 t)) (spl 59 b))) := by
  have hl := spl_le 59 b
  have hsub := spl_sub 59 b
  refine loop_mpO (fu := fu) (l := spl 59 b) (f := fun t => mpO cellS (spl 44 t)) (by unfold Big at hf; omega) ?_ ?_
  · intro k acc x ha hx
    have hk : k < (spl 59 b).length := (List.getElem?_eq_some_iff.1 hx).1
    have hxm := hsub x (List.mem_of_getElem? hx)
    unfold D_spec_ParseSquare_s0; dsimp only
    rw [List.length_map, bif_dt (by omega), chk_inR (by omega) (by omega), Int.toNat_natCast, rds_map hx]
    show (D_spec_l01Split fu (toB x) ((44 : UInt8).toNat : Int)).bind _ = _
    rw [l01Split_D hf 44 (by omega), Option.bind_some, sRowP hf (by omega), Option.bind_some]
    cases hc : mpO cellS (spl 44 x) with
    | none => rfl
    | some c => 
      dsimp only [sumO]
      rw [chk_le (by omega), chk_in64 (by omega) (by omega)]; rfl
  · intro acc
    unfold D_spec_ParseSquare_s0; dsimp only
    rw [List.length_map, bif_df (by omega)]
theorem rows_small {f : List UInt8 → Option Int} {b : List UInt8} {ps : List (List Int)} (hb : b.length ≤ 1500000) (h : mpO (fun t => mpO f (spl 44 t)) (spl 59 b) = some ps) : Small ps ∧ ps.length ≤ 1500001 ∧ ∀ r ∈ ps, r.length ≤ 1500001 := by
  have h1 := mpO_len h
  have h2 := spl_le 59 b
  have h3 : ∀ r ∈ ps, r.length ≤ 1500001 := fun r hr => by
    obtain ⟨t, ht, e⟩ := mpO_mem h r hr
    have := mpO_len e
    have h4 := spl_le 44 t
    have h5 := spl_sub 59 b t ht
    omega
  exact ⟨⟨by omega, fun r hr => by have := h3 r hr; omega⟩, by omega, h3⟩
theorem sParse_D {fu : Nat} (hf : Big fu) {l : List UInt8} (hl : l.length ≤ 1048576) : D_spec_ParseSquare fu (toB l) = some (sqS l) := by
  unfold D_spec_ParseSquare sqS
  show (D_spec_l01Split fu (toB l) ((58 : UInt8).toNat : Int)).bind _ = _
  rw [l01Split_D hf 58 (by omega), Option.bind_some]
  have hsub := spl_sub 58 l
  generalize spl 58 l = ws at hsub ⊢
  match ws, hsub with
  | [], _ => rfl
  | [a], _ => rfl
  | a :: b :: c :: r, _ =>
    rw [List.length_map, bif_nf (by simp; omega)]
  | [a, b], hsub =>
    have ha := hsub a (by simp)
    have hb := hsub b (by simp)
    rw [List.length_map, bif_nt (by simp), chk_inR (by omega) (by simp)]
    show ((D_spec_l01Number fu (toB a)).bind _) = _
    rw [l01Number_D hf (by omega), Option.bind_some, chk_inR (by omega) (by simp)]
    show ((D_spec_l01Split fu (toB b) ((59 : UInt8).toNat : Int)).bind _) = _
    rw [l01Split_D hf 59 (by omega), Option.bind_some, sRowsP hf (by omega), Option.bind_some]
    dsimp only [sumO]
    cases hm : mpO (fun t => mpO cellS (spl 44 t)) (spl 59 b) with
    | none => rfl
    | some ps =>
      dsimp only [sumO]
      rw [l04Is_D hf _ (rows_small (by omega) hm).1, Option.bind_some]
      cases isSq (sNum a) ps <;> rfl
theorem iRowP {fu : Nat} (hf : Big fu) {t : List UInt8} (ht : t.length ≤ 1500000) : loopF (D_impl_ParseSquare_s1 fu ((spl 44 t).map toB)) fu ([], 0) = some (sumO (0, [], 6) (mpO cellI (spl 44 t))) := by
  have hl := spl_le 44 t
  have hsub := spl_sub 44 t
  refine loop_mpO (fu := fu) (l := spl 44 t) (f := cellI) (by unfold Big at hf; omega) ?_ ?_
  · intro k acc x ha hx
    have hk : k < (spl 44 t).length := (List.getElem?_eq_some_iff.1 hx).1
    have hxm := hsub x (List.mem_of_getElem? hx)
    unfold D_impl_ParseSquare_s1; dsimp only
    rw [List.length_map, bif_dt (by omega), chk_inR (by omega) (by omega), Int.toNat_natCast, rds_map hx, e45, Cut_D 45 (by omega), Option.bind_some]
    unfold cellI
    by_cases h : (45 : UInt8) ∈ x
    · obtain ⟨a, b, rfl, hna⟩ := part_first h
      rw [List.length_append, List.length_cons] at hxm
      rw [cut_some hna]
      dsimp only [sumO]
      rw [bif_true, readNumber_D (by omega), Option.bind_some, readNumber_D (by omega), Option.bind_some, between_D, Option.bind_some, if_pos rfl]
      cases h1 : inB (rdNum (toB a)) 0 13 with
      | false => rfl
      | true =>
        rw [between_D, Bool.not_true, bif_false, Option.bind_some]
        cases h2 : inB (rdNum (toB b)) 0 13 with
        | false => rfl
        | true =>
          have g1 := inB_of h1
          have g2 := inB_of h2
          rw [Option.bind_some, Bool.not_true, bif_false, chk_in64 (by omega) (by omega), chk_in64 (by omega) (by omega), Option.bind_some]
          dsimp only [sumO]
          rw [chk_le (by omega), chk_in64 (by omega) (by omega)]; rfl
    · rw [cut_none h]
      dsimp only [sumO]
      rw [bif_false, Option.bind_some]
      dsimp only [sumO]
      rw [chk_le (by omega), chk_in64 (by omega) (by omega)]; rfl
  · intro acc
    unfold D_impl_ParseSquare_s1; dsimp only
    rw [List.length_map, bif_df (by omega)]
theorem iRowsP {fu : Nat} (hf : Big fu) {b : List UInt8} (hb : b.length ≤ 1500000) : loopF (D_impl_ParseSquare_s0 fu ((spl 59 b).map toB)) fu ([], 0) = some (sumO (0, [], 6) (mpO (fun t => mpO cellI (spl 44 t)) (spl 59 b))) := by
  have hl := spl_le 59 b
  have hsub := spl_sub 59 b
  refine loop_mpO (fu := fu) (l := spl 59 b) (f := fun t => mpO cellI (spl 44 t)) (by unfold Big at hf; omega) ?_ ?_
  · intro k acc x ha hx
    have hk : k < (spl 59 b).length := (List.getElem?_eq_some_iff.1 hx).1
    have hxm := hsub x (List.mem_of_getElem? hx)
    unfold D_impl_ParseSquare_s0; dsimp only
    rw [List.length_map, bif_dt (by omega), chk_inR (by omega) (by omega), Int.toNat_natCast, rds_map hx, e44, Split_D 44 (by omega), Option.bind_some, iRowP hf (by omega), Option.bind_some]
    cases hc : mpO cellI (spl 44 x) with
    | none => rfl
    | some c =>
      dsimp only [sumO]
      rw [chk_le (by omega), chk_in64 (by omega) (by omega)]; rfl
  · intro acc
    unfold D_impl_ParseSquare_s0; dsimp only
    rw [List.length_map, bif_df (by omega)]
theorem rows_64 {b : List UInt8} {ps : List (List Int)} (h : mpO (fun t => mpO cellI (spl 44 t)) (spl 59 b) = some ps) : R64 ps := fun r hr x hx => by
  obtain ⟨t, ht, e⟩ := mpO_mem h r hr
  obtain ⟨w, hw, e2⟩ := mpO_mem e x hx
  have := cellI_ok e2
  unfold okC at this
  exact ⟨by omega, by omega⟩
theorem cut_le {l a b : List UInt8} {t : Bool} {c : UInt8} (h : Go.Lib.cut l [c] = (a, b, t)) : a.length ≤ l.length ∧ b.length ≤ l.length := by
  by_cases hm : c ∈ l
  · obtain ⟨x, y, rfl, hx⟩ := part_first hm
    rw [cut_some hx] at h
    cases h
    simp; omega
  · rw [cut_none hm] at h
    cases h; simp
theorem iParse_D {fu : Nat} (hf : Big fu) {l : List UInt8} (hl : l.length ≤ 1048576) : D_impl_ParseSquare fu (toB l) = some (sqI l) := by
  unfold D_impl_ParseSquare sqI
  rw [e58, Cut_D 58 (by omega), Option.bind_some]
  have hc := fun a b t (h : Go.Lib.cut l [58] = (a, b, t)) => cut_le h
  generalize Go.Lib.cut l [58] = w at hc ⊢
  obtain ⟨a, b, t⟩ := w
  obtain ⟨ha, hb⟩ := hc a b t rfl
  dsimp only [sumO]
  rw [readNumber_D (by omega), Option.bind_some, e59, Split_D 59 (by omega), Option.bind_some, iRowsP hf (by omega), Option.bind_some]
  cases hm : mpO (fun t => mpO cellI (spl 44 t)) (spl 59 b) with
  | none => rfl
  | some ps =>
    dsimp only [sumO]
    rw [IsSquare_D hf _ (rows_small (by omega) hm).1 (rows_64 hm), Option.bind_some]
    cases hs : isSq (rdNum (toB a)) ps with
    | false => rfl
    | true =>
      rw [Bool.not_true, bif_false, iText hf (okSq_of hs), Option.bind_some, Option.bind_some, toB_list, Bool.true_and]
      by_cases h : sqT (rdNum (toB a)) ps = l
      · rw [decide_eq_true h]; rfl
      · rw [decide_eq_false h]; rfl
theorem markSq_D {fu : Nat} (hf : Big fu) {n : Int} {rs : List (List Int)} {k : Int} (hs : Small rs) (h0 : 0 ≤ k) (h1 : k + totR rs ≤ 4611686018427387904) : D_laws_markSquare fu n rs k = some (k + totR rs, mkT k rs) := by
  unfold D_laws_markSquare
  rw [markInt64SS_D hf hs h0 h1]; rfl
theorem heldSq_D {fu : Nat} (hf : Big fu) {n : Int} {rs : List (List Int)} {k : Int} (hs : Small rs) (h0 : 0 ≤ k) (h1 : k + totR rs ≤ 4611686018427387904) : D_laws_heldSquare fu n (mkT k rs) k = some (k + totR rs) := by
  unfold D_laws_heldSquare
  rw [heldInt64SS_D hf hs h0 h1, Option.bind_some, bif_df (by omega)]
theorem tot13 : ∀ {rs : List (List Int)}, (∀ r ∈ rs, r.length ≤ 13) → totR rs ≤ 13 * rs.length
  | [], _ => Nat.zero_le _
  | r :: rs, h => by
    have := tot13 (rs := rs) fun r h' => h r (List.mem_cons_of_mem _ h')
    have h0 := h r (List.mem_cons_self ..)
    have e : totR (r :: rs) = r.length + totR rs := by simp [totR]
    rw [e, List.length_cons]; omega
theorem sqS_small (l : List UInt8) : (sqS l).2.1.length ≤ 13 ∧ ∀ r ∈ (sqS l).2.1, r.length ≤ 13 := by
  rcases sqS_back (l := l) with e | ⟨n, ps, h, rfl⟩
  · rw [e]; exact ⟨by simp, fun r hr => absurd hr List.not_mem_nil⟩
  · rw [sqS_text h]
    have ho := okSq_of h
    exact ⟨ho.len, fun r hr => (ho.row r hr).1⟩
theorem parseSq_law {fu : Nat} (hf : Big fu) {a : ByteArray} : D_laws_FnExactParseSquare fu a = some true := by
  obtain ⟨l, rfl⟩ : ∃ l, a = toB l := ⟨a.data.toList, (toB_data2 a).symm⟩
  unfold D_laws_FnExactParseSquare
  by_cases hl : 1048576 < ((toB l).size : Int)
  · rw [bif_dt hl]
  · rw [toB_size] at hl
    have e1 := sParse_D hf (l := l) (by omega)
    have e2 := iParse_D hf (l := l) (by omega)
    rw [sq_same] at e2
    have hs := sqS_small l
    generalize sqS l = w at e1 e2 hs
    obtain ⟨n, ps, c⟩ := w
    dsimp only at hs
    have h1 := tot13 hs.2
    have hsm : Small ps := ⟨by omega, fun r hr => by have := hs.2 r hr; omega⟩
    rw [bif_df (by rw [toB_size]; omega), e1, Option.bind_some]
    simp (disch := omega) only [e2, Option.bind_some, eqSquare_D hf hsm, decide_true, Bool.and_true, Bool.not_true, bif_false, markSq_D hf hsm, heldSq_D hf hsm, bif_df, bif_nt]
end Go.Proofs.YtfiilgnebmidbaaDoor

