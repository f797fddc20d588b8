/-
  ComponentsOf and TypeOfRounds: what program and reference compute, and the laws. Plain Lean, no program, no condition.
-/
import Derived.Test.YtdafmafigcljkaaDA
import Derived.Test.YtdafmafigcljkaaDTb
import Derived.Test.YtdafmafigcljkaaDTc
import Derived.Test.YtdafmafigcljkaaPuF
namespace Go.Proofs.Ytdafmafigcljkaa
open Go Am
set_option linter.unusedVariables false
set_option linter.unusedSimpArgs false

def two (n : Int) (r q : List Int) : Bool := isRnd n r && isRnd n q
theorem isRnd_n {n : Int} {r : List Int} (h : isRnd n r = true) : 2 ≤ n ∧ n ≤ 14 := by
  unfold isRnd at h; rw [Bool.and_eq_true] at h; exact inB_of h.1
theorem inn_of {n : Int} {r : List Int} (h : isRnd n r = true) : Inn n.toNat r := fun j hj => by
  have hn := isRnd_n h
  unfold isRnd at h
  rw [Bool.and_eq_true, List.all_eq_true] at h
  have := h.2 j (List.mem_range.2 (by omega))
  unfold rndAt at this
  rw [if_pos (by omega), Bool.and_eq_true] at this
  have := inB_of this.1
  omega
theorem twoCode_D {fu : Nat} (hf : Big fu) (n : Int) {r q : List Int} (hr : r.length = 14) (hq : q.length = 14) : D_impl_twoCode fu n r q = some (if two n r q then 0 else 2) := by
  unfold D_impl_twoCode two
  rw [IsRound_D hf n hr, Option.bind_some]
  cases isRnd n r with
  | false => rfl
  | true =>
    rw [Bool.not_true, bif_false, IsRound_D hf n hq, Option.bind_some, Option.bind_some]
    cases isRnd n q <;> rfl
theorem l02Rounds_D {fu : Nat} (hf : Big fu) (n : Int) {r q : List Int} (hr : r.length = 14) (hq : q.length = 14) : D_spec_l02Rounds fu n [r, q] = some (if two n r q then 0 else 2) := by
  unfold D_spec_l02Rounds two
  rw [l01In_D, Option.bind_some]
  cases hn : inB n 2 14 with
  | false =>
    have h1 : isRnd n r = false := by unfold isRnd; rw [hn]; rfl
    rw [h1]; rfl
  | true =>
    rw [Bool.not_true, bif_false]
    have s0 : D_spec_l02Rounds_s0 fu n [r, q] 0 = if isRnd n r then some (.go 1) else some (.out (.inr 2)) := by
      unfold D_spec_l02Rounds_s0
      rw [bif_dt (by simp), chk_inR (by omega) (by simp)]
      show (D_spec_l01Round fu n r).bind _ = _
      rw [l01Round_D hf n hr, Option.bind_some]
      cases isRnd n r <;> rfl
    have s1 : D_spec_l02Rounds_s0 fu n [r, q] 1 = if isRnd n q then some (.go 2) else some (.out (.inr 2)) := by
      unfold D_spec_l02Rounds_s0
      rw [bif_dt (by simp), chk_inR (by omega) (by simp)]
      show (D_spec_l01Round fu n q).bind _ = _
      rw [l01Round_D hf n hq, Option.bind_some]
      cases isRnd n q <;> rfl
    have s2 : D_spec_l02Rounds_s0 fu n [r, q] 2 = some (.out (.inl ())) := by
      unfold D_spec_l02Rounds_s0
      rw [bif_df (by simp)]
    obtain ⟨g, rfl⟩ : ∃ g, fu = g + 1 + 1 + 1 := ⟨fu - 3, by unfold Big at hf; omega⟩
    cases h1 : isRnd n r with
    | false =>
      rw [h1] at s0
      rw [loop_out s0]; rfl
    | true =>
      rw [h1] at s0
      rw [loop_go s0]
      cases h2 : isRnd n q with
      | false => rw [h2] at s1; rw [loop_out s1]; rfl
      | true => rw [h2] at s1; rw [loop_go s1, loop_out s2]; rfl
def compsOf (n : Int) (r q : List Int) : List (List Int) × Int := if two n r q then (comps n.toNat r q, 0) else ([], 2)
theorem two_of {n : Int} {r q : List Int} (h : two n r q = true) : (2 ≤ n ∧ n ≤ 14) ∧ Inn n.toNat r ∧ Inn n.toNat q := by
  unfold two at h
  rw [Bool.and_eq_true] at h
  exact ⟨isRnd_n h.1, inn_of h.1, inn_of h.2⟩
theorem toNat_int {n : Int} (h : 0 ≤ n) : ((n.toNat : Nat) : Int) = n := Int.toNat_of_nonneg h
theorem iComps {fu : Nat} (hf : Big fu) {n : Int} {r q : List Int} (h : two n r q = true) : D_impl_components fu n r q = some (comps n.toNat r q) := by
  obtain ⟨hn, h1, h2⟩ := two_of h
  have := components_D hf (n := n.toNat) (by omega) h1 h2
  rwa [toNat_int (by omega)] at this
theorem sComps {fu : Nat} (hf : Big fu) {n : Int} {r q : List Int} (h : two n r q = true) : D_spec_l02Components fu n r q = some (comps n.toNat r q) := by
  obtain ⟨hn, h1, h2⟩ := two_of h
  have := l02Components_D hf (n := n.toNat) (by omega) h1 h2
  rwa [toNat_int (by omega)] at this
theorem comps_small {fu : Nat} (hf : Big fu) {n : Int} {r q : List Int} (h : two n r q = true) : 0 < (comps n.toNat r q).length ∧ (comps n.toNat r q).length ≤ 14 ∧ ∀ c ∈ comps n.toNat r q, c.length ≤ 14 := by
  obtain ⟨hn, h1, h2⟩ := two_of h
  obtain ⟨a, b, c⟩ := comps_len hf (n := n.toNat) (by omega) h1 h2
  exact ⟨b (by omega), by omega, fun x hx => by have := c x hx; omega⟩
theorem compsOf_eqs {fu : Nat} (hf : Big fu) (n : Int) {r q : List Int} (hr : r.length = 14) (hq : q.length = 14) : D_spec_ComponentsOf fu n r q = some (compsOf n r q) ∧ D_impl_ComponentsOf fu n r q = some (compsOf n r q) := by
  unfold D_spec_ComponentsOf D_impl_ComponentsOf compsOf
  rw [l02Rounds_D hf n hr hq, twoCode_D hf n hr hq, Option.bind_some, Option.bind_some]
  cases h : two n r q with
  | false => exact ⟨rfl, rfl⟩
  | true => rw [sComps hf h, iComps hf h]; exact ⟨rfl, rfl⟩
theorem tot_leB {b : Nat} : ∀ {rs : List (List Int)}, (∀ c ∈ rs, c.length ≤ b) → totR rs ≤ rs.length * b
  | [], _ => by simp [totR]
  | r :: rs, h => by
    have h1 := h r (by simp)
    have h2 := tot_leB (fun c hc => h c (by simp [hc]) : ∀ c ∈ rs, c.length ≤ b)
    have h3 : totR (r :: rs) = r.length + totR rs := by simp [totR]
    rw [h3, List.length_cons, Nat.add_mul]; omega
/-- the type of two rounds -/
def typ (n : Nat) (r q : List Int) : List Int := (srt ((comps n r q).map fun c => (c.length : Int))).reverse
theorem typ_len (n : Nat) (r q : List Int) : (typ n r q).length = (comps n r q).length := by unfold typ; rw [List.length_reverse, srt_len, List.length_map]
theorem take_map {l : List (List Int)} {k : Nat} (h : k < l.length) : (l.take (k + 1)).map (fun c => (c.length : Int)) = (l.take k).map (fun c => (c.length : Int)) ++ [((rw_ l k).length : Int)] := by
  rw [take_rw h, List.map_append]; rfl
theorem sTyp_s0 {fu : Nat} (hf : Big fu) {rs : List (List Int)} (hl : rs.length ≤ 14) : loopF (D_spec_l02Type_s0 fu rs) fu ([], 0) = some (rs.map fun c => (c.length : Int)) := by
  unfold Big at hf
  refine loop_seq (fun k => ((rs.take k).map (fun c => (c.length : Int)), (k : Int))) rs.length _ (by omega) ?_ ?_ rfl
  · intro k hk
    unfold D_spec_l02Type_s0; dsimp only
    have : ((rs.take k).map (fun c => (c.length : Int))).length = k := by rw [List.length_map, List.length_take]; omega
    rw [bif_dt (by omega), chk_inR (by omega) (by omega), chk_le (by omega), chk_in64 (by omega) (by omega), take_map hk, Int.toNat_natCast]; rfl
  · unfold D_spec_l02Type_s0; dsimp only
    rw [bif_df (by omega), List.take_of_length_le (Nat.le_refl _)]
theorem iTyp_s0 {fu : Nat} (hf : Big fu) {rs : List (List Int)} (hl : rs.length ≤ 14) : loopF (D_impl_kind_s0 fu rs) fu ([], 0) = some (rs.map fun c => (c.length : Int)) := by
  unfold Big at hf
  refine loop_seq (fun k => ((rs.take k).map (fun c => (c.length : Int)), (k : Int))) rs.length _ (by omega) ?_ ?_ rfl
  · intro k hk
    unfold D_impl_kind_s0 D_impl_size_int64; dsimp only
    have : ((rs.take k).map (fun c => (c.length : Int))).length = k := by rw [List.length_map, List.length_take]; omega
    rw [bif_dt (by omega), chk_inR (by omega) (by omega), Option.bind_some, chk_le (by omega), chk_in64 (by omega) (by omega), take_map hk, Int.toNat_natCast]; rfl
  · unfold D_impl_kind_s0; dsimp only
    rw [bif_df (by omega), List.take_of_length_le (Nat.le_refl _)]
theorem rd_rev {xs : List Int} {k : Nat} (h : k < xs.length) : rd xs (xs.length - 1 - k) = rd xs.reverse k := by
  unfold rd
  rw [List.getD_eq_getElem?_getD, List.getD_eq_getElem?_getD, List.getElem?_reverse h]
theorem take_rdB {l : List Int} {k : Nat} (h : k < l.length) : l.take (k + 1) = l.take k ++ [rd l k] := by
  rw [List.take_succ_eq_append_getElem h, rd_get]
theorem sTyp_s1 {fu : Nat} (hf : Big fu) {xs : List Int} (hl : xs.length ≤ 14) : loopF (D_spec_l02Type_s1 fu xs) fu ([], (xs.length : Int) - 1) = some xs.reverse := by
  unfold Big at hf
  refine loop_seq (fun k => (xs.reverse.take k, (xs.length : Int) - 1 - k)) xs.length _ (by omega) ?_ ?_ (by simp)
  · intro k hk
    unfold D_spec_l02Type_s1; dsimp only
    have h1 : (xs.reverse.take k).length = k := by rw [List.length_take, List.length_reverse]; omega
    have h2 : ((xs.length : Int) - 1 - k).toNat = xs.length - 1 - k := by omega
    have h3 : xs.reverse.take (k + 1) = xs.reverse.take k ++ [rd xs.reverse k] := take_rdB (by rw [List.length_reverse]; exact hk)
    rw [bif_dt (by omega), chk_inR (by omega) (by omega), chk_le (by omega), chk_in64 (by omega) (by omega), h2, rd_rev hk, h3, (by omega : (xs.length : Int) - 1 - (k : Int) - 1 = (xs.length : Int) - 1 - ((k + 1 : Nat) : Int))]
  · unfold D_spec_l02Type_s1; dsimp only
    rw [bif_df (by omega), List.take_of_length_le (by simp)]
theorem kind_D {fu : Nat} (hf : Big fu) {n : Int} {r q : List Int} (h : two n r q = true) : D_impl_kind fu n r q = some (typ n.toNat r q) := by
  have hs := comps_small hf h
  unfold D_impl_kind typ
  rw [iComps hf h, Option.bind_some, iTyp_s0 hf hs.2.1, Option.bind_some, Sort_D (by rw [List.length_map]; omega), Option.bind_some, Reverse_D (by rw [srt_len, List.length_map]; omega)]; rfl
theorem l02Type_D {fu : Nat} (hf : Big fu) {n : Int} {r q : List Int} (h : two n r q = true) : D_spec_l02Type fu n r q = some (typ n.toNat r q) := by
  have hs := comps_small hf h
  have h1 : (srt ((comps n.toNat r q).map fun c => (c.length : Int))).length ≤ 14 := by rw [srt_len, List.length_map]; omega
  unfold D_spec_l02Type typ
  rw [sComps hf h, Option.bind_some, sTyp_s0 hf hs.2.1, Option.bind_some, l02Sorted_D hf (by rw [List.length_map]; omega), Option.bind_some, chk_in64 (by omega) (by omega), sTyp_s1 hf h1]; rfl
def typeOf (n : Int) (r q : List Int) : List Int × Int := if two n r q then (typ n.toNat r q, 0) else ([], 2)
theorem typeOf_eqs {fu : Nat} (hf : Big fu) (n : Int) {r q : List Int} (hr : r.length = 14) (hq : q.length = 14) : D_spec_TypeOfRounds fu n r q = some (typeOf n r q) ∧ D_impl_TypeOfRounds fu n r q = some (typeOf n r q) := by
  unfold D_spec_TypeOfRounds D_impl_TypeOfRounds typeOf
  rw [l02Rounds_D hf n hr hq, twoCode_D hf n hr hq, Option.bind_some, Option.bind_some]
  cases h : two n r q with
  | false => exact ⟨rfl, rfl⟩
  | true => rw [l02Type_D hf h, kind_D hf h]; exact ⟨rfl, rfl⟩
end Go.Proofs.Ytdafmafigcljkaa

