/-
  Texts joined: PuAd, PuAe, PuAf. Plain Lean. No condition.
-/
import Derived.Test.YtdafmafigcljkaaGreatDA
import Derived.Test.YtdafmafigcljkaaGreatDE
import Derived.Test.YtdafmafigcljkaaGreatDI
import Derived.Test.YtdafmafigcljkaaGreatDSa
import Derived.Test.YtdafmafigcljkaaGreatDSb
import Derived.Test.YtdafmafigcljkaaGreatQb
import Derived.Test.YtdafmafigcljkaaGreatPuMA
import Derived.KernelRfl
import Derived.Test.YtdafmafigcljkaaGreatDB
import Derived.Test.YtdafmafigcljkaaGreatDC
import Derived.Test.YtdafmafigcljkaaGreatDD
import Derived.Test.YtdafmafigcljkaaGreatDTf
namespace Go.Proofs.YtdafmafigcljkaaGreat
open Go Am
set_option linter.unusedVariables false
set_option linter.unusedSimpArgs false
theorem loop_inv' {S R : Type} {step : S → Option (Lo S R)} (I : Nat → S → Prop) (Q : R → Prop) (n : Nat) (hgo : ∀ k s, k < n → I k s → ∃ s', step s = some (.go s') ∧ I (k + 1) s') (hout : ∀ s, I n s → ∃ r, step s = some (.out r) ∧ Q r) :
    ∀ (m k fu : Nat) (s : S), k + m = n → m < fu → I k s → ∃ r, loopF step fu s = some r ∧ Q r
  | 0, k, fu + 1, s, h, _, hs => by
    have : k = n := by omega
    subst this
    obtain ⟨r, h1, h2⟩ := hout s hs
    exact ⟨r, loop_out h1, h2⟩
  | m + 1, k, fu + 1, s, h, hf, hs => by
    obtain ⟨s', h1, h2⟩ := hgo k s (by omega) hs
    rw [loop_go h1]; exact loop_inv' I Q n hgo hout m (k + 1) fu s' (by omega) (by omega) h2
  | 0, _, 0, _, _, hf, _ => absurd hf (Nat.not_lt_zero _)
  | _ + 1, _, 0, _, _, hf, _ => absurd hf (Nat.not_lt_zero _)
theorem loop_inv {S R : Type} {step : S → Option (Lo S R)} {fu : Nat} (I : Nat → S → Prop) (Q : R → Prop) (n : Nat) (hf : n < fu) (hgo : ∀ k s, k < n → I k s → ∃ s', step s = some (.go s') ∧ I (k + 1) s') (hout : ∀ s, I n s → ∃ r, step s = some (.out r) ∧ Q r) {s : S} (hs : I 0 s) : ∃ r, loopF step fu s = some r ∧ Q r :=
  loop_inv' I Q n hgo hout n 0 fu s (by omega) hf hs
def U8 (l : List Int) : Prop := ∀ x ∈ l, 0 ≤ x ∧ x < 256
def At (a : List Int) (t : Int) : Prop := 0 ≤ t ∧ t ≤ (a.length : Int) ∧ a.length ≤ 4096
theorem mask_le (y : Int) : 0 ≤ IntKind.i64.wrap (iand .u64 y 16777215) ∧ IntKind.i64.wrap (iand .u64 y 16777215) ≤ 16777215 := by
  have h1 : (BitVec.ofInt (IntKind.bits .u64) y &&& BitVec.ofInt (IntKind.bits .u64) 16777215).toNat ≤ 16777215 := by
    rw [BitVec.toNat_and]
    exact Nat.and_le_right
  unfold iand
  generalize (BitVec.ofInt (IntKind.bits .u64) y &&& BitVec.ofInt (IntKind.bits .u64) 16777215).toNat = q at h1
  have e1 : IntKind.u64.wrap (q : Int) = q := by
    unfold IntKind.wrap
    simp only [IntKind.signed, IntKind.bits, Bool.false_and, Bool.false_eq_true, if_false]
    omega
  have e2 : IntKind.i64.wrap (q : Int) = q := by
    unfold IntKind.wrap
    have : ¬ ((q : Int) % 2 ^ 64 ≥ 2 ^ 63) := by omega
    simp only [IntKind.signed, IntKind.bits, Bool.true_and]
    rw [if_neg (by simpa using (by omega : ¬ (2 ^ 63 ≤ (q : Int) % 2 ^ 64)))]
    omega
  rw [e1, e2]; omega
theorem next_D {fu : Nat} {a : List Int} (hB : U8 a) {t : Int} (ht : At a t) (h n : Int) : ∃ x t' h', D_spec_l01Next fu n a t h = some (x, t', h') ∧ At a t' ∧ 0 ≤ x ∧ (x < n ∨ (n < 1 ∧ x = 0)) := by
  unfold D_spec_l01Next
  obtain ⟨t0, t1, t2⟩ := ht
  by_cases hn : n < 1
  · rw [bif_dt hn]; exact ⟨0, t, h, rfl, ⟨t0, t1, t2⟩, Int.le_refl _, .inr ⟨hn, rfl⟩⟩
  · rw [bif_df hn]
    have hm := mask_le (ishr .u64 (IntKind.u64.wrap (IntKind.u64.wrap (h * 6364136223846793005) + 1442695040888963407)) 33)
    generalize IntKind.i64.wrap (iand .u64 (ishr .u64 (IntKind.u64.wrap (IntKind.u64.wrap (h * 6364136223846793005) + 1442695040888963407)) 33) 16777215) = y at hm
    have key : ∀ z : Int, 0 ≤ z → 0 ≤ z.tmod n ∧ z.tmod n < n := fun z hz => ⟨Int.tmod_nonneg _ hz, Int.tmod_lt_of_pos _ (by omega)⟩
    by_cases hl : t < (a.length : Int)
    · have hx := hB _ (rd_mem (l := a) (k := t.toNat) (by omega))
      simp (disch := omega) only [bif_dt, chk_inR, chk_in64, Option.bind_some]
      obtain ⟨k1, k2⟩ := key (y + rd a t.toNat) (by omega)
      refine ⟨_, _, _, by exact chk_ne (by omega), ⟨by omega, by omega, t2⟩, k1, .inl k2⟩
    · rw [bif_df hl, Option.bind_some]
      obtain ⟨k1, k2⟩ := key y hm.1
      exact ⟨_, _, _, by exact chk_ne (by omega), ⟨t0, t1, t2⟩, k1, .inl k2⟩
theorem pick_D {fu : Nat} {a : List Int} (hB : U8 a) {t : Int} (ht : At a t) (h : Int) {l : List Int} {k : Nat} (hl : l.length = k) (h0 : 0 < k) : ∃ x t' h', D_spec_l01Pick fu a t h k l = some (x, t', h') ∧ At a t' ∧ x ∈ l := by
  unfold D_spec_l01Pick
  obtain ⟨x, t', h', e, g1, g2, g3⟩ := next_D (fu := fu) hB ht h (k : Int)
  rw [e, Option.bind_some]
  refine ⟨rd l x.toNat, t', h', by exact chk_inR (by omega) (by omega), g1, rd_mem (by omega)⟩
theorem from_D {fu : Nat} (hf : Big fu) {a : List Int} (hl : a.length ≤ 4096) : ∃ h, D_spec_l01From fu a = some (0, h) := by
  unfold D_spec_l01From
  obtain ⟨r, h1, _⟩ := loop_inv (fu := fu) (step := D_spec_l01From_s0 fu a) (fun k (s : Int × Int) => s.2 = (k : Int)) (fun _ => True) a.length (by unfold Big at hf; omega) (by
    rintro k ⟨x, y⟩ hk rfl
    refine ⟨(IntKind.u64.wrap (IntKind.u64.wrap (IntKind.u64.wrap (x * 1099511628211) + (IntKind.u64.wrap (rd a (k : Int).toNat))) + 223), (k : Int) + 1), ?_, by push_cast; rfl⟩
    unfold D_spec_l01From_s0
    dsimp only
    rw [decide_eq_true (by omega), decide_eq_true (by omega), Bool.and_self, bif_true, chk_inR (by omega) (by omega), chk_in64 (by omega) (by omega)]) (by
    rintro ⟨x, y⟩ rfl
    refine ⟨x, ?_, trivial⟩
    unfold D_spec_l01From_s0
    dsimp only
    rw [decide_eq_false (by omega), Bool.false_and, bif_false]) (s := (IntKind.u64.wrap (13791 + (IntKind.u64.wrap ((a.length : Nat) : Int))), 0)) rfl
  exact ⟨r, by rw [h1, Option.bind_some]⟩
theorem own_D {fu : Nat} {l : List Int} (hl : l.length ≤ 4294967296) : D_spec_l01Own fu l = some l := by
  unfold D_spec_l01Own
  first
    | rw [chk_le (by omega)]
    | (simp (disch := omega) only [chk_le, Nat.zero_add]; done)
theorem like_D {fu : Nat} (hf : Big fu) {xs : List Int} (hl : xs.length ≤ 4294967296) : D_laws_likeInts fu xs xs = some true := by
  unfold Big at hf
  unfold D_laws_likeInts
  rw [bif_nt rfl, loop_seq (fun k => (k : Int)) xs.length (.inl ()) (by omega) ?_ ?_ (s := 0) rfl, Option.bind_some]
  · intro k hk
    unfold D_laws_likeInts_s0
    simp (disch := omega) only [bif_dt, chk_inR, chk_in64, Int.toNat_natCast]
    rw [bif_nt trivial]; rfl
  · unfold D_laws_likeInts_s0
    simp (disch := omega) only [bif_df]
theorem bind_ex {α β : Type} {b : Option α} {K : α → Option β} {P : α → Prop} {Q : β → Prop} (h1 : ∃ x, b = some x ∧ P x) (h2 : ∀ x, P x → ∃ y, K x = some y ∧ Q y) : ∃ y, b.bind K = some y ∧ Q y := by
  obtain ⟨x, rfl, hx⟩ := h1
  exact h2 x hx
theorem nextE {fu : Nat} {a : List Int} (hB : U8 a) {t : Int} (ht : At a t) (h n : Int) : ∃ y, D_spec_l01Next fu n a t h = some y ∧ (At a y.2.1 ∧ 0 ≤ y.1 ∧ (y.1 < n ∨ (n < 1 ∧ y.1 = 0))) := by
  obtain ⟨x, t', h', e, g1, g2, g3⟩ := next_D (fu := fu) hB ht h n
  exact ⟨_, e, g1, g2, g3⟩
theorem pickE {fu : Nat} {a : List Int} (hB : U8 a) {t : Int} (ht : At a t) (h : Int) {l : List Int} {k : Nat} (hl : l.length = k) (h0 : 0 < k) : ∃ y, D_spec_l01Pick fu a t h k l = some y ∧ (At a y.2.1 ∧ y.1 ∈ l) := by
  obtain ⟨x, t', h', e, g1, g2⟩ := pick_D (fu := fu) hB ht h hl h0
  exact ⟨_, e, g1, g2⟩
def MS : List Int := [3, 5, 7, 9, 11, 13]
theorem ms_mod {m : Int} (h : m ∈ MS) : isMod m = true := by
  unfold MS at h
  simp only [List.mem_cons, List.not_mem_nil, or_false] at h
  rcases h with rfl | rfl | rfl | rfl | rfl | rfl <;> rfl
def fineB (m : Int) (ps : List (List Int)) : Bool := decide (0 < ps.length) && (decide (ps.length ≤ 6) && ps.all (okS m))
theorem fine_of {m : Int} {ps : List (List Int)} (h : fineB m ps = true) : 0 < ps.length ∧ ps.length ≤ 6 ∧ ∀ p ∈ ps, okS m p = true := by
  unfold fineB at h
  simpa only [Bool.and_eq_true, decide_eq_true_eq, List.all_eq_true] using h
def holdB {α : Type} (o : Option α) (p : α → Bool) : Bool := match o with
  | some l => p l
  | none => false
theorem srch12 : (MS.all fun m => holdB (D_spec_l03Search 8589934693 m [] false 12) fun l => decide (0 < l.length) && l.all (fineB m)) = true := by kernel_rfl
theorem srch6 : (MS.all fun m => holdB (D_spec_l03Search 8589934693 m [] true 6) fun l => l.all (fineB m)) = true := by kernel_rfl
theorem patt : (MS.all fun m => holdB (D_spec_l03Patterned 8589934693 m) (fineB m)) = true := by kernel_rfl
theorem ex_of {α : Type} {o : Option α} {p : α → Bool} (h : holdB o p = true) : ∃ l, o = some l ∧ p l = true := by
  cases o with
  | none => cases h
  | some l => exact ⟨l, rfl, h⟩
theorem srch12_D {m : Int} (hm : m ∈ MS) : ∃ l, D_spec_l03Search 8589934693 m [] false 12 = some l ∧ (0 < l.length ∧ ∀ x ∈ l, fineB m x = true) := by
  obtain ⟨l, e, h⟩ := ex_of (List.all_eq_true.1 srch12 m hm)
  simp only [Bool.and_eq_true, decide_eq_true_eq, List.all_eq_true] at h
  exact ⟨l, e, h⟩
theorem srch6_D {m : Int} (hm : m ∈ MS) : ∃ l, D_spec_l03Search 8589934693 m [] true 6 = some l ∧ (∀ x ∈ l, fineB m x = true) := by
  obtain ⟨l, e, h⟩ := ex_of (List.all_eq_true.1 srch6 m hm)
  exact ⟨l, e, List.all_eq_true.1 h⟩
theorem patt_D {m : Int} (hm : m ∈ MS) : ∃ l, D_spec_l03Patterned 8589934693 m = some l ∧ fineB m l = true := ex_of (List.all_eq_true.1 patt m hm)
theorem own3_D {fu : Nat} (hf : Big fu) {ps : List (List Int)} (hl : ps.length ≤ 1000) (hr : ∀ p ∈ ps, p.length ≤ 1000) : D_spec_l03Own fu ps = some ps := by
  unfold Big at hf
  unfold D_spec_l03Own
  rw [loop_seq (fun k => (ps.take k, ((k : Nat) : Int))) ps.length ps (by omega) ?_ ?_ (s := (([] : List (List Int)), (0 : Int))) (by simp)]
  · rfl
  · intro k hk
    have := hr _ (rw_mem hk)
    unfold D_spec_l03Own_s0
    dsimp only
    rw [bif_dt (by omega), chk_inR (by omega) (by omega), Int.toNat_natCast, own_D (by omega), Option.bind_some, chk_le (by rw [List.length_take]; omega), chk_in64 (by omega) (by omega), ← take_rw hk]; rfl
  · unfold D_spec_l03Own_s0
    dsimp only
    rw [bif_df (by omega), List.take_of_length_le (Nat.le_refl _)]
theorem own_fine {fu : Nat} (hf : Big fu) {m : Int} {ps : List (List Int)} (h : fineB m ps = true) : D_spec_l03Own fu ps = some ps := by
  obtain ⟨h0, h1, h2⟩ := fine_of h
  exact own3_D hf (by omega) fun p hp => by have := (okS_of (h2 p hp)).1; omega
theorem mult_D {fu : Nat} (hf : Big fu) {m t : Int} (hm : m ∈ MS) {ps : List (List Int)} (h : fineB m ps = true) (h0 : 0 ≤ t) (h1 : t < m) (hg : gcv t m = some 1) : ∃ qs, D_spec_l03Multiple fu m ps t = some qs ∧ fineB m qs = true := by
  obtain ⟨p0, p1, hok⟩ := fine_of h
  have hM := isMod_of (ms_mod hm)
  obtain ⟨g, e, hinj⟩ := fin_gcv (ms_mod hm) h0 h1
  have e1 : (1 : Int) = g := Option.some.inj (hg.symm.trans e)
  have hinj := hinj e1.symm
  have hlen : (mulP m t ps).length = ps.length := by unfold mulP; rw [List.length_map]
  unfold D_spec_l03Multiple
  rw [sMul_loop hf ⟨hM.1, hM.2.1⟩ ⟨h0, h1⟩ (by omega) hok, Option.bind_some, sSorted_D hf (fun p hp => by obtain ⟨q, _, rfl⟩ := List.mem_map.1 hp; rfl) (by omega), Option.bind_some]
  refine ⟨_, rfl, ?_⟩
  unfold fineB
  simp only [Bool.and_eq_true, decide_eq_true_eq, List.all_eq_true]
  refine ⟨by rw [srtB_len, List.length_map]; omega, by rw [srtB_len, List.length_map]; omega, fun p hp => ?_⟩
  obtain ⟨q, hq, rfl⟩ := List.mem_map.1 (srtB_mem.1 hp)
  obtain ⟨r, hr, rfl⟩ := List.mem_map.1 hq
  obtain ⟨o0, o1, o2, o3⟩ := okS_of (hok r hr)
  have z0 : (0 * t).tmod m = 0 := by rw [Int.zero_mul, Int.zero_tmod]
  have b1 := Int.tmod_nonneg m (Int.mul_nonneg (by omega : 0 ≤ rd r 0) h0)
  have b2 := Int.tmod_lt_of_pos (rd r 0 * t) (by omega : 0 < m)
  have b3 := Int.tmod_nonneg m (Int.mul_nonneg (by omega : 0 ≤ rd r 1) h0)
  have b4 := Int.tmod_lt_of_pos (rd r 1 * t) (by omega : 0 < m)
  have n1 : (rd r 0 * t).tmod m ≠ 0 := fun e => by
    have := hinj (rd r 0) 0 (by omega) (by omega) (by omega) (by omega) (by rw [e, z0]); omega
  have n2 : (rd r 1 * t).tmod m ≠ 0 := fun e => by
    have := hinj (rd r 1) 0 (by omega) (by omega) (by omega) (by omega) (by rw [e, z0]); omega
  have n3 : (rd r 0 * t).tmod m ≠ (rd r 1 * t).tmod m := fun e => o3 (hinj _ _ (by omega) (by omega) (by omega) (by omega) e)
  generalize (rd r 0 * t).tmod m = u at *
  generalize (rd r 1 * t).tmod m = v at *
  unfold okS nrm
  simp only [Bool.and_eq_true, decide_eq_true_eq, Bool.not_eq_true', decide_eq_false_iff_not]
  refine ⟨⟨⟨rfl, inB_t ?_⟩, inB_t ?_⟩, ?_⟩
  · show 1 ≤ (if v < u then v else u) ∧ (if v < u then v else u) ≤ m - 1
    split <;> omega
  · show 1 ≤ (if v > u then v else u) ∧ (if v > u then v else u) ≤ m - 1
    split <;> omega
  · show ¬ (if v < u then v else u) = (if v > u then v else u)
    split <;> split <;> omega
theorem drawOf_D {a : List Int} (hB : U8 a) {m : Int} (hm : m ∈ MS) {t : Int} (ht : At a t) (h : Int) : ∃ y, D_spec_l03DrawOf 8589934693 m a t h = some y ∧ (At a y.2.1 ∧ fineB m y.1 = true) := by
  have hM := isMod_of (ms_mod hm)
  have hf : Big 8589934693 := by unfold Big; decide
  unfold D_spec_l03DrawOf
  refine bind_ex (srch12_D hm) ?_
  rintro l ⟨l0, lf⟩
  refine bind_ex (nextE hB ht h 3) ?_
  rintro ⟨x1, t1, h1⟩ ⟨a1, b1, _⟩
  dsimp only at a1 b1 ⊢
  refine bind_ex (P := fun all : List (List (List Int)) => 0 < all.length ∧ ∀ x ∈ all, fineB m x = true) ?_ ?_
  · by_cases c : x1 = 0
    · rw [bif_dt c]
      refine bind_ex (srch6_D hm) ?_
      intro l6 f6
      refine bind_ex (P := fun all : List (List (List Int)) => 0 < all.length ∧ ∀ x ∈ all, fineB m x = true) ?_ (fun x hx => ⟨x, rfl, hx⟩)
      by_cases c6 : (0 : Int) < ((l6.length : Nat) : Int)
      · rw [bif_dt c6]; exact ⟨l6, rfl, by omega, f6⟩
      · rw [bif_df c6]; exact ⟨l, rfl, l0, lf⟩
    · rw [bif_df c]; exact ⟨l, rfl, l0, lf⟩
  rintro all ⟨n0, nf⟩
  refine bind_ex (nextE hB a1 h1 ((all.length : Nat) : Int)) ?_
  rintro ⟨x2, t2, h2⟩ ⟨a2, b2, c2⟩
  dsimp only at a2 b2 c2 ⊢
  rw [chk_inR (by omega) (by omega), chk_in64 (by omega) (by omega)]
  refine bind_ex (nextE hB a2 h2 (m - 1)) ?_
  rintro ⟨x3, t3, h3⟩ ⟨a3, b3, c3⟩
  dsimp only at a3 b3 c3 ⊢
  rw [chk_in64 (by omega) (by omega)]
  refine bind_ex (nextE hB a3 h3 4) ?_
  rintro ⟨x4, t4, h4⟩ ⟨a4, _, _⟩
  dsimp only at a4 ⊢
  refine bind_ex (P := fun ps : List (List Int) => fineB m ps = true) ?_ ?_
  · by_cases c : x4 = 0
    · rw [bif_dt c]; exact bind_ex (patt_D hm) (fun x hx => ⟨x, rfl, hx⟩)
    · rw [bif_df c]; exact ⟨_, rfl, nf _ (rw3_mem (by omega))⟩
  intro ps fp
  obtain ⟨g, hg, _⟩ := fin_gcv (ms_mod hm) (t := 1 + x3) (by omega) (by omega)
  rw [(divisor_D hf hg).2, Option.bind_some]
  by_cases c : g = 1
  · rw [bif_dt c]
    refine bind_ex (mult_D hf hm fp (by omega) (by omega) (c ▸ hg)) ?_
    intro qs fq
    rw [own_fine hf fq]; exact ⟨_, rfl, a4, fq⟩
  · rw [bif_df c, own_fine hf fp]; exact ⟨_, rfl, a4, fp⟩
theorem with_D {a : List Int} (hB : U8 a) {t : Int} (ht : At a t) (h : Int) : ∃ y, D_spec_l03With 8589934693 a t h = some y ∧ (y.1 ∈ MS ∧ At a y.2.2.1 ∧ fineB y.1 y.2.1 = true) := by
  unfold D_spec_l03With
  refine bind_ex (pickE hB ht h rfl (by decide)) ?_
  rintro ⟨m, t1, h1⟩ ⟨a1, b1⟩
  dsimp only at a1 b1 ⊢
  have hm : m ∈ MS := by
    unfold MS
    simp only [List.mem_cons, List.not_mem_nil, or_false] at b1 ⊢
    omega
  refine bind_ex (drawOf_D hB hm a1 h1) ?_
  rintro ⟨ps, t2, h2⟩ ⟨a2, b2⟩
  exact ⟨_, rfl, hm, a2, b2⟩
theorem bad_D {fu : Nat} (hf : Big fu) {a : List Int} (hB : U8 a) {m : Int} (hm : m ∈ MS) {ps : List (List Int)} (hp : fineB m ps = true) {t : Int} (ht : At a t) (h : Int) : ∃ y, D_spec_l03Bad fu m ps a t h = some y ∧ y.2.1.length ≤ 7 := by
  have hM := isMod_of (ms_mod hm)
  obtain ⟨p0, p1, hok⟩ := fine_of hp
  have hr0 := (okS_of (hok _ (rw_mem (k := 0) p0))).1
  unfold D_spec_l03Bad
  rw [own_fine hf hp, Option.bind_some]
  refine bind_ex (nextE hB ht h 24) ?_
  rintro ⟨x, t1, h1⟩ ⟨a1, _, _⟩
  dsimp only at a1 ⊢
  refine bind_ex (P := fun y : Int × Int × Int × List (List Int) => y.2.2.2.length ≤ 7) ?_ (by rintro ⟨_, _, _, q⟩ hq; exact ⟨_, rfl, hq⟩)
  by_cases c0 : x = 0
  · rw [bif_dt c0, chk_in64 (by omega) (by omega)]
    refine bind_ex (pickE hB a1 h1 rfl (by decide)) ?_
    rintro ⟨x2, t2, h2⟩ _
    exact ⟨_, rfl, by show ps.length ≤ 7; omega⟩
  rw [bif_df c0]
  refine bind_ex (P := fun y : Int × Int × List (List Int) => y.2.2.length ≤ 7) ?_ (by rintro ⟨_, _, q⟩ hq; exact ⟨_, rfl, hq⟩)
  by_cases c1 : x = 1
  · rw [bif_dt c1, chk_inR (by omega) (by omega)]
    refine bind_ex (nextE hB a1 h1 2) ?_
    rintro ⟨x2, t2, h2⟩ ⟨a2, b2, c2⟩
    dsimp only at a2 b2 c2 ⊢
    refine bind_ex (pickE hB a2 h2 rfl (by decide)) ?_
    rintro ⟨x3, t3, h3⟩ _
    dsimp only
    rw [chk_inR (by omega) (by omega)]
    exact ⟨_, rfl, by show (List.set _ _ _).length ≤ 7; rw [List.length_set]; omega⟩
  rw [bif_df c1]
  refine bind_ex (P := fun q : List (List Int) => q.length ≤ 7) ?_ (fun q hq => ⟨_, rfl, hq⟩)
  by_cases c2 : x = 2
  · rw [bif_dt c2, chk_le (by omega)]
    exact ⟨_, rfl, by simp; omega⟩
  rw [bif_df c2]
  refine bind_ex (P := fun q : List (List Int) => q.length ≤ 7) ?_ (fun q hq => ⟨_, rfl, hq⟩)
  by_cases c3 : x = 3
  · rw [bif_dt c3, chk_inR (by omega) (by omega), chk_t (by omega), chk_inR (by omega) (by omega)]
    exact ⟨_, rfl, by rw [List.length_set]; omega⟩
  rw [bif_df c3]
  refine bind_ex (P := fun q : List (List Int) => q.length ≤ 7) ?_ (fun q hq => ⟨_, rfl, hq⟩)
  by_cases c4 : x = 4
  · rw [bif_dt c4]
    refine bind_ex (P := fun q : List (List Int) => q.length ≤ 7) ?_ (fun q hq => ⟨_, rfl, hq⟩)
    by_cases c5 : (1 : Int) < ((ps.length : Nat) : Int)
    · rw [bif_dt c5, chk_inR (by omega) (by omega), chk_inR (by omega) (by omega), chk_inR (by omega) (by omega), chk_inR (by omega) (by omega)]
      exact ⟨_, rfl, by rw [List.length_set, List.length_set]; omega⟩
    · rw [bif_df c5]; exact ⟨_, rfl, by omega⟩
  · rw [bif_df c4]; exact ⟨_, rfl, by omega⟩
theorem at0 {a : List Int} (hl : a.length ≤ 4096) : At a 0 := ⟨by omega, by omega, hl⟩
theorem fromE {fu : Nat} (hf : Big fu) {a : List Int} (hl : a.length ≤ 4096) : ∃ y, D_spec_l01From fu a = some y ∧ At a y.1 := by
  obtain ⟨h, e⟩ := from_D hf hl
  exact ⟨_, e, at0 hl⟩
theorem strongDraw_D {a : List Int} (hB : U8 a) (hl : a.length ≤ 4096) : ∃ y, D_spec_DrawStrongAdder 8589934693 a = some y ∧ y.2.length ≤ 7 := by
  have hf : Big 8589934693 := by unfold Big; decide
  unfold D_spec_DrawStrongAdder D_spec_l03Given
  refine bind_ex (P := fun y : Int × List (List Int) => y.2.length ≤ 7) ?_ (by rintro ⟨m, q⟩ hq; exact ⟨_, rfl, hq⟩)
  refine bind_ex (fromE hf hl) ?_
  rintro ⟨t, h⟩ ht
  dsimp only at ht ⊢
  refine bind_ex (with_D hB ht h) ?_
  rintro ⟨m, ps, t1, h1⟩ ⟨hm, a1, hp⟩
  dsimp only at hm a1 hp ⊢
  refine bind_ex (bad_D hf hB hm hp a1 h1) ?_
  rintro ⟨m2, qs, t2, h2⟩ hq
  exact ⟨_, rfl, hq⟩
theorem find_D {fu : Nat} (hf : 8589934692 < fu) {m : Int} (hm : m ∈ MS) {ps : List (List Int)} (hp : fineB m ps = true) : ∃ y, D_spec_l03FindAdder fu m ps [] = some y ∧ (y.2 = true → y.1.length = ps.length) := by
  have hM := isMod_of (ms_mod hm)
  obtain ⟨p0, p1, hok⟩ := fine_of hp
  obtain ⟨gu, rfl⟩ : ∃ g, fu = g + 1 := ⟨fu - 1, by omega⟩
  rw [sFirst ⟨hM.1, hM.2.1⟩ (by omega) hok ps.length [] gu (by simp) (by simp) (by omega)]
  cases e : fAd m ps ps.length [] with
  | none => exact ⟨_, rfl, fun h => by cases h⟩
  | some l => exact ⟨_, rfl, fun _ => by have := fAd_len e; simpa using this⟩
theorem isAdderDraw_D {a : List Int} (hB : U8 a) (hl : a.length ≤ 4096) : ∃ y, D_spec_DrawIsAdder 8589934693 a = some y ∧ (y.2.1.length ≤ 7 ∧ y.2.2.length ≤ 7) := by
  have hf : Big 8589934693 := by unfold Big; decide
  unfold D_spec_DrawIsAdder
  refine bind_ex (fromE hf hl) ?_
  rintro ⟨t, h⟩ ht
  dsimp only at ht ⊢
  refine bind_ex (with_D hB ht h) ?_
  rintro ⟨m, ps, t1, h1⟩ ⟨hm, a1, hp⟩
  dsimp only at hm a1 hp ⊢
  have hM := isMod_of (ms_mod hm)
  obtain ⟨p0, p1, hok⟩ := fine_of hp
  refine bind_ex (P := fun r : Int × Int × List Int => At a r.1 ∧ r.2.2.length = ps.length) ?_ ?_
  · refine loop_inv (fun k (s : Int × Int × List Int × Int) => At a s.1 ∧ s.2.2.1.length = k ∧ s.2.2.2 = (k : Int)) (fun r : Int × Int × List Int => At a r.1 ∧ r.2.2.length = ps.length) ps.length (by omega) ?_ ?_ (s := (t1, h1, [], 0)) ⟨a1, rfl, rfl⟩
    · rintro k ⟨u, v, xs, i⟩ hk ⟨g1, g2, rfl⟩
      dsimp only at g1 g2
      unfold D_spec_DrawIsAdder_s0
      dsimp only
      rw [bif_dt (by omega), chk_in64 (by omega) (by omega)]
      obtain ⟨⟨x, u', v'⟩, e, f1, f2, f3⟩ := nextE (fu := 8589934693) hB g1 v (m - 1)
      dsimp only at f1 f2 f3
      rw [e, Option.bind_some]
      dsimp only
      rw [chk_in64 (by omega) (by omega), chk_le (by omega), chk_in64 (by omega) (by omega)]
      exact ⟨_, rfl, f1, by simp; omega, by push_cast; rfl⟩
    · rintro ⟨u, v, xs, i⟩ ⟨g1, g2, rfl⟩
      dsimp only at g1 g2
      unfold D_spec_DrawIsAdder_s0
      dsimp only
      rw [bif_df (by omega)]
      exact ⟨_, rfl, g1, g2⟩
  rintro ⟨t2, h2, xs⟩ ⟨a2, hx⟩
  dsimp only at a2 hx ⊢
  refine bind_ex (P := fun r : Int × Int × Bool => At a r.1) ?_ ?_
  · by_cases c : m < 10
    · rw [bif_dt c]
      refine bind_ex (nextE hB a2 h2 3) ?_
      rintro ⟨x3, t3, h3⟩ ⟨a3, _, _⟩
      exact ⟨_, rfl, a3⟩
    · rw [bif_df c]; exact ⟨_, rfl, a2⟩
  rintro ⟨t3, h3, b⟩ a3
  dsimp only at a3 ⊢
  refine bind_ex (P := fun q : List Int => q.length = ps.length) ?_ ?_
  · cases b with
    | false => exact ⟨_, rfl, hx⟩
    | true =>
      rw [bif_true]
      refine bind_ex (find_D (by decide) hm hp) ?_
      rintro ⟨l, ok⟩ hl2
      dsimp only at hl2 ⊢
      refine bind_ex (P := fun q : List Int => q.length = ps.length) ?_ (fun q hq => ⟨_, rfl, hq⟩)
      cases ok with
      | false => exact ⟨_, rfl, hx⟩
      | true =>
        have := hl2 rfl
        rw [bif_true, own_D (by omega)]; exact ⟨_, rfl, this⟩
  intro q hq
  refine bind_ex (nextE hB a3 h3 16) ?_
  rintro ⟨x4, t4, h4⟩ ⟨a4, _, _⟩
  dsimp only at a4 ⊢
  refine bind_ex (P := fun r : Int × Int × List Int => At a r.1 ∧ r.2.2.length ≤ 7) ?_ ?_
  · by_cases c : x4 = 0
    · rw [bif_dt c, chk_le (by omega)]
      exact ⟨_, rfl, a4, by simp; omega⟩
    · rw [bif_df c]
      refine bind_ex (P := fun r : Int × Int × List Int => At a r.1 ∧ r.2.2.length ≤ 7) ?_ (by rintro ⟨_, _, _⟩ hr; exact ⟨_, rfl, hr⟩)
      by_cases c1 : x4 = 1
      · rw [bif_dt c1]
        refine bind_ex (pickE hB a4 h4 rfl (by decide)) ?_
        rintro ⟨x5, t5, h5⟩ ⟨a5, _⟩
        dsimp only at a5 ⊢
        rw [chk_inR (by omega) (by omega)]
        exact ⟨_, rfl, a5, by show (List.set _ _ _).length ≤ 7; rw [List.length_set]; omega⟩
      · rw [bif_df c1]; exact ⟨_, rfl, a4, by show q.length ≤ 7; omega⟩
  rintro ⟨t5, h5, ys⟩ ⟨a5, hy⟩
  dsimp only at a5 hy ⊢
  refine bind_ex (bad_D hf hB hm hp a5 h5) ?_
  rintro ⟨m2, qs, t6, h6⟩ hq2
  exact ⟨_, rfl, hq2, hy⟩
theorem gcv_neg : (MS.all fun m => decide (gcv (m - 1) m = some 1)) = true := by kernel_rfl
theorem orthDraw_D {a : List Int} (hB : U8 a) (hl : a.length ≤ 4096) : ∃ y, D_spec_DrawAreOrthogonal 8589934693 a = some y ∧ (y.2.1.length ≤ 7 ∧ y.2.2.length ≤ 7) := by
  have hf : Big 8589934693 := by unfold Big; decide
  unfold D_spec_DrawAreOrthogonal
  refine bind_ex (fromE hf hl) ?_
  rintro ⟨t, h⟩ ht
  dsimp only at ht ⊢
  refine bind_ex (with_D hB ht h) ?_
  rintro ⟨m, ps, t1, h1⟩ ⟨hm, a1, hp⟩
  dsimp only at hm a1 hp ⊢
  have hM := isMod_of (ms_mod hm)
  rw [chk_in64 (by omega) (by omega)]
  refine bind_ex (mult_D hf hm hp (by omega) (by omega) (of_decide_eq_true (List.all_eq_true.1 gcv_neg m hm))) ?_
  intro ns hn
  rw [own_fine hf hn, Option.bind_some]
  refine bind_ex (nextE hB a1 h1 3) ?_
  rintro ⟨x2, t2, h2⟩ ⟨a2, _, _⟩
  dsimp only at a2 ⊢
  refine bind_ex (P := fun r : Int × Int × List (List Int) => At a r.1 ∧ fineB m r.2.2 = true) ?_ ?_
  · by_cases c : x2 = 0
    · rw [bif_dt c]
      refine bind_ex (drawOf_D hB hm a2 h2) ?_
      rintro ⟨q, t3, h3⟩ ⟨a3, hq⟩
      exact ⟨_, rfl, a3, hq⟩
    · rw [bif_df c]
      refine bind_ex (P := fun q : List (List Int) => fineB m q = true) ?_ (fun q hq => ⟨_, rfl, a2, hq⟩)
      by_cases c1 : x2 = 1
      · rw [bif_dt c1]; exact bind_ex (patt_D hm) (fun x hx => ⟨x, rfl, hx⟩)
      · rw [bif_df c1]; exact ⟨_, rfl, hn⟩
  rintro ⟨t3, h3, q⟩ ⟨a3, hq⟩
  dsimp only at a3 hq ⊢
  have hq1 := (fine_of hq).2.1
  refine bind_ex (bad_D hf hB hm hp a3 h3) ?_
  rintro ⟨m2, qs, t6, h6⟩ hq2
  exact ⟨_, rfl, hq2, by show q.length ≤ 7; omega⟩
def FS : List Int := [3, 5, 7, 9, 11, 13, 1, 6, 15]
def CS : List Int := [3, 5, 7, 7, 9, 9, 11, 1, 8, 15]
theorem fsDraw_D {a : List Int} (hB : U8 a) (hl : a.length ≤ 4096) : ∃ y, D_spec_DrawFirstStrong 8589934693 a = some y ∧ y ∈ FS := by
  have hf : Big 8589934693 := by unfold Big; decide
  unfold D_spec_DrawFirstStrong
  refine bind_ex (fromE hf hl) ?_
  rintro ⟨t, h⟩ ht
  dsimp only at ht ⊢
  refine bind_ex (pickE hB ht h rfl (by decide)) ?_
  rintro ⟨x, t1, h1⟩ ⟨_, hx⟩
  exact ⟨_, rfl, hx⟩
theorem csDraw_D {a : List Int} (hB : U8 a) (hl : a.length ≤ 4096) : ∃ y, D_spec_DrawCountStarters 8589934693 a = some y ∧ y ∈ CS := by
  have hf : Big 8589934693 := by unfold Big; decide
  unfold D_spec_DrawCountStarters
  refine bind_ex (fromE hf hl) ?_
  rintro ⟨t, h⟩ ht
  dsimp only at ht ⊢
  refine bind_ex (pickE hB ht h rfl (by decide)) ?_
  rintro ⟨x, t1, h1⟩ ⟨_, hx⟩
  exact ⟨_, rfl, hx⟩
end Go.Proofs.YtdafmafigcljkaaGreat
namespace Go.Proofs.YtdafmafigcljkaaGreat
open Go Am
set_option linter.unusedVariables false
set_option linter.unusedSimpArgs false
theorem nd_le2 {n : Nat} {l : List Int} (h : l.Nodup) (hm : ∀ x ∈ l, 0 ≤ x ∧ x < n) : l.length ≤ n := by
  have h1 : (l.map Int.toNat).Nodup := by
    rw [List.Nodup, List.pairwise_map]
    refine List.Pairwise.imp_of_mem (fun {a b} ha hb hab e => hab ?_) h
    have := hm a ha; have := hm b hb; omega
  have h2 : (l.map Int.toNat) ⊆ List.range n := fun x hx => by
    obtain ⟨y, hy, rfl⟩ := List.mem_map.1 hx
    have := hm y hy
    exact List.mem_range.2 (by omega)
  have := List.Nodup.length_le_of_subset h1 h2
  simpa using this
theorem addk_nd {K : List Int} {x : Int} (h : K.Nodup) : (addk K x).Nodup := by
  unfold addk; split
  · exact h
  · rename_i hx
    rw [List.Nodup, List.pairwise_append]
    refine ⟨h, List.pairwise_singleton _ _, fun a ha b hb e => ?_⟩
    rw [List.mem_singleton.1 hb] at e
    subst e; exact hx ha
theorem ins2_nd (a b : Nat → Int) : ∀ k, (ins2 a b k).Nodup
  | 0 => List.nodup_nil
  | k + 1 => addk_nd (addk_nd (ins2_nd a b k))
theorem ins2_mem {a b : Nat → Int} {z : Int} : ∀ {k : Nat}, z ∈ ins2 a b k → ∃ i, i < k ∧ (z = a i ∨ z = b i)
  | 0, h => absurd h List.not_mem_nil
  | k + 1, h => by
    rcases addk_mem.1 h with h | h
    · rcases addk_mem.1 h with h | h
      · obtain ⟨i, hi, e⟩ := ins2_mem h; exact ⟨i, by omega, e⟩
      · exact ⟨k, by omega, .inl h⟩
    · exact ⟨k, by omega, .inr h⟩
def nums (l : List (List Int)) : List Int := l.flatMap fun p => [rd p 0, rd p 1]
def difs (m : Int) (l : List (List Int)) : List Int := l.flatMap fun p => [rd p 1 - rd p 0, m - rd p 1 + rd p 0]
theorem mem_take_rw {ps : List (List Int)} {j : Nat} {p : List Int} (h : p ∈ ps.take j) : ∃ i, i < j ∧ i < ps.length ∧ p = rw_ ps i := by
  obtain ⟨i, hi, rfl⟩ := List.getElem_of_mem h
  rw [List.length_take] at hi
  refine ⟨i, by omega, by omega, ?_⟩
  rw [List.getElem_take]
  simp [rw_, List.getD_eq_getElem?_getD, List.getElem?_eq_getElem (by omega : i < ps.length)]
theorem rw_mem_take {ps : List (List Int)} {i j : Nat} (h : i < j) (hj : j ≤ ps.length) : rw_ ps i ∈ ps.take j := by
  have e : rw_ (ps.take j) i = rw_ ps i := rw_take h
  rw [← e]; exact rw_mem (by rw [List.length_take]; omega)
theorem mem_nums {l : List (List Int)} {z : Int} : z ∈ nums l ↔ ∃ p ∈ l, z = rd p 0 ∨ z = rd p 1 := by
  unfold nums; simp [List.mem_flatMap]
theorem mem_difs {m : Int} {l : List (List Int)} {z : Int} : z ∈ difs m l ↔ ∃ p ∈ l, z = rd p 1 - rd p 0 ∨ z = m - rd p 1 + rd p 0 := by
  unfold difs; simp [List.mem_flatMap]
structure Sta (m : Int) (ps : List (List Int)) (j : Nat) : Prop where
  lt : sx ps j < sy ps j
  nx : sx ps j ∉ nums (ps.take j)
  ny : sy ps j ∉ nums (ps.take j)
  nd : sy ps j - sx ps j ∉ difs m (ps.take j)
  all : ∀ z, 1 ≤ z → z < sx ps j → z ∈ nums (ps.take j)
theorem sta_of {m : Int} {ps : List (List Int)} (h : stCode m ps = 0) {j : Nat} (hj : j < ps.length) : Sta m ps j := by
  obtain ⟨hn, hok, hlen⟩ := stCode_zero h
  have hs : isSt m ps = true := by
    unfold stCode at h
    split at h
    · split at h
      · assumption
      · omega
    · omega
  have hap := (st_apart hs).2
  unfold isSt at hs
  simp only [Bool.and_eq_true, decide_eq_true_eq, List.all_eq_true, List.mem_range] at hs
  obtain ⟨h0, h1, h2, h3⟩ := hs
  have hord : ∀ i, i < ps.length → sx ps i < sy ps i ∧ (0 < i → sx ps (i - 1) ≤ sx ps i) := fun i hi => by
    have hr := h0 i hi
    unfold ord at hr
    simp only [Bool.and_eq_true, Bool.or_eq_true, Bool.not_eq_true', decide_eq_false_iff_not, decide_eq_true_eq] at hr
    have ho := okS_of (hok _ (rw_mem hi))
    unfold sx sy at *
    omega
  have hmono : ∀ d i, i + d < ps.length → sx ps i ≤ sx ps (i + d) := by
    intro d
    induction d with
    | zero => intro i _; exact Int.le_refl _
    | succ d ih =>
      intro i hi
      have h1 := ih i (by omega)
      have h2 := (hord (i + (d + 1)) hi).2 (by omega)
      have e : i + (d + 1) - 1 = i + d := by omega
      rw [e] at h2; omega
  refine ⟨(hord j hj).1, ?_, ?_, ?_, ?_⟩
  · intro hm
    obtain ⟨p, hp, hz⟩ := mem_nums.1 hm
    obtain ⟨i, hi, _, rfl⟩ := mem_take_rw hp
    have := hap i j hi hj
    simp only [sx, sy] at this hz; omega
  · intro hm
    obtain ⟨p, hp, hz⟩ := mem_nums.1 hm
    obtain ⟨i, hi, _, rfl⟩ := mem_take_rw hp
    have := hap i j hi hj
    simp only [sx, sy] at this hz; omega
  · intro hm
    obtain ⟨p, hp, hz⟩ := mem_difs.1 hm
    obtain ⟨i, hi, _, rfl⟩ := mem_take_rw hp
    have hh := ins2_has (a := sd ps) (b := se m ps) hi
    have hk := (((ins2_len (sd ps) (se m ps) ps.length).2.1 (by omega)) j hj).1
    rcases hz with hz | hz
    · exact hk (by have e : sd ps j = sd ps i := hz
                   rw [e]; exact hh.1)
    · exact hk (by have e : sd ps j = se m ps i := hz
                   rw [e]; exact hh.2)
  · intro z hz hlt
    have hin : z ∈ ins2 (sx ps) (sy ps) ps.length := Classical.byContradiction fun hc => by
      have hr : ∀ y ∈ ins2 (sx ps) (sy ps) ps.length, 1 ≤ y ∧ y < m := fun y hy => by
        obtain ⟨i, hi, e⟩ := ins2_mem hy
        have ho := okS_of (hok _ (rw_mem hi))
        unfold sx sy at e
        omega
      have ho := okS_of (hok _ (rw_mem hj))
      have := nd_le2 (n := m.toNat) (l := 0 :: z :: ins2 (sx ps) (sy ps) ps.length) (by
        refine List.nodup_cons.2 ⟨fun h => ?_, List.nodup_cons.2 ⟨hc, ins2_nd _ _ _⟩⟩
        rcases List.mem_cons.1 h with h | h
        · omega
        · have := hr _ h; omega) (by
        intro y hy
        unfold sx at hlt
        rcases List.mem_cons.1 hy with rfl | hy
        · omega
        · rcases List.mem_cons.1 hy with rfl | hy
          · omega
          · have := hr _ hy; omega)
      simp only [List.length_cons] at this
      omega
    obtain ⟨i, hi, e⟩ := ins2_mem hin
    by_cases hij : i < j
    · exact mem_nums.2 ⟨rw_ ps i, rw_mem_take hij (by omega), e⟩
    · exfalso
      have h1 := hmono (i - j) j (by omega)
      rw [show j + (i - j) = i by omega] at h1
      have h2 := (hord i hi).1
      omega
def nextS (m : Nat) (l : List (List Int)) : List (List Int) := (List.range m).flatMap fun (x : Nat) =>
  if decide (1 ≤ x) && (List.range x).all (fun z => decide (z = 0) || decide ((z : Int) ∈ nums l)) then
    (List.range m).flatMap fun (y : Nat) =>
      if decide (x < y) && (decide ((x : Int) ∉ nums l) && (decide ((y : Int) ∉ nums l) && (decide ((y : Int) - (x : Int) ∉ difs m l) && (decide (sum1 m [(x : Int), (y : Int)] ≠ 0) && decide (sum1 m [(x : Int), (y : Int)] ∉ sms m l))))) then [[(x : Int), (y : Int)]] else []
  else []
def enumS (m : Nat) : Nat → List (List Int) → List (List (List Int))
  | 0, l => [l]
  | k + 1, l => (nextS m l).flatMap fun q => enumS m k (l ++ [q])
theorem enumS_mem {m : Nat} : ∀ (k : Nat) (l r : List (List Int)), r.length = k → (∀ j, j < k → rw_ r j ∈ nextS m (l ++ r.take j)) → l ++ r ∈ enumS m k l
  | 0, l, r, hl, _ => by
    obtain rfl := List.eq_nil_of_length_eq_zero hl
    simp [enumS]
  | k + 1, l, [], hl, _ => by cases hl
  | k + 1, l, q :: r, hl, h => by
    unfold enumS
    refine List.mem_flatMap.2 ⟨q, ?_, ?_⟩
    · have := h 0 (by omega); simpa [rw_] using this
    · have := enumS_mem k (l ++ [q]) r (by simpa using hl) fun j hj => by
        have := h (j + 1) (by omega)
        simpa [rw_] using this
      simpa using this
theorem next_of {m : Int} {ps : List (List Int)} (h : stCode m ps = 0) (hd : difN (sms m ps) = true) {j : Nat} (hj : j < ps.length) : rw_ ps j ∈ nextS m.toNat (ps.take j) := by
  obtain ⟨hn, hok, hlen⟩ := stCode_zero h
  obtain ⟨o0, o1, o2, o3⟩ := okS_of (hok _ (rw_mem hj))
  obtain ⟨s1, s2, s3, s4, s5⟩ := sta_of h hj
  have hp : rw_ ps j = [sx ps j, sy ps j] := by
    unfold sx sy
    generalize rw_ ps j = p at *
    match p, o0 with
    | [a, b], _ => rfl
  have hm : ((m.toNat : Nat) : Int) = m := by omega
  have hx1 : 1 ≤ sx ps j ∧ sx ps j < m := by unfold sx; omega
  have hy1 : 1 ≤ sy ps j ∧ sy ps j < m := by unfold sy; omega
  have ex : (((sx ps j).toNat : Nat) : Int) = sx ps j := by omega
  have ey : (((sy ps j).toNat : Nat) : Int) = sy ps j := by omega
  unfold difN at hd
  simp only [Bool.and_eq_true, decide_eq_true_eq] at hd
  have hsj : sum1 m [sx ps j, sy ps j] ∈ sms m ps := by rw [← hp]; exact List.mem_map.2 ⟨_, rw_mem hj, rfl⟩
  have hnot : sum1 m [sx ps j, sy ps j] ∉ sms m (ps.take j) := fun hc => by
    have e : sms m ps = sms m (ps.take j) ++ sms m (ps.drop j) := by unfold sms; rw [← List.map_append, List.take_append_drop]
    have e2 : sum1 m [sx ps j, sy ps j] ∈ sms m (ps.drop j) := by
      rw [← hp]
      refine List.mem_map.2 ⟨_, ?_, rfl⟩
      rw [List.drop_eq_getElem_cons hj]
      have : rw_ ps j = ps[j] := by simp [rw_, List.getD_eq_getElem?_getD, List.getElem?_eq_getElem hj]
      rw [this]; exact List.mem_cons_self ..
    have hnd := hd.2
    rw [e, List.Nodup, List.pairwise_append] at hnd
    exact hnd.2.2 _ hc _ e2 rfl
  rw [hp]
  unfold nextS
  refine List.mem_flatMap.2 ⟨(sx ps j).toNat, List.mem_range.2 (by omega), ?_⟩
  rw [if_pos ?_]
  · refine List.mem_flatMap.2 ⟨(sy ps j).toNat, List.mem_range.2 (by omega), ?_⟩
    rw [if_pos ?_]
    · rw [ex, ey]; exact List.mem_singleton.2 rfl
    · rw [ex, ey, hm]
      simp only [Bool.and_eq_true, decide_eq_true_eq]
      exact ⟨by omega, s2, s3, s4, fun e => hd.1 (e ▸ hsj), hnot⟩
  · simp only [Bool.and_eq_true, decide_eq_true_eq, List.all_eq_true, List.mem_range, Bool.or_eq_true]
    refine ⟨by omega, fun z hz => ?_⟩
    by_cases h0 : z = 0
    · exact .inl h0
    · exact .inr (s5 z (by omega) (by omega))
theorem strong_mem {m : Int} {ps : List (List Int)} (h : stCode m ps = 0) (hd : difN (sms m ps) = true) : ps ∈ enumS m.toNat ((m.toNat - 1) / 2) [] := by
  obtain ⟨hn, hok, hlen⟩ := stCode_zero h
  have := enumS_mem (m := m.toNat) ((m.toNat - 1) / 2) [] ps (by omega) fun j hj => by
    rw [List.nil_append]; exact next_of h hd (by omega)
  simpa using this
def good3 (m : Int) (ps : List (List Int)) : Bool := decide (addOf m ps (sAdd m ps) = (true, 0)) && (decide ((mulOf m (m - 1) ps).2 = 0) && (decide (orthOf m ps (mulOf m (m - 1) ps).1 = (true, 0)) && decide ((firstOf m ps).2 = 0)))
theorem good_all : ([3, 5, 7, 9, 11, 13].all fun (m : Nat) => (enumS m ((m - 1) / 2) []).all (good3 m)) = true := by kernel_rfl
theorem strong_good {m : Int} {ps : List (List Int)} (h : stCode m ps = 0) (hd : difN (sms m ps) = true) : good3 m ps = true := by
  obtain ⟨hn, hok, hlen⟩ := stCode_zero h
  have hM : m.toNat ∈ [3, 5, 7, 9, 11, 13] := by
    simp only [List.mem_cons, List.not_mem_nil, or_false]; omega
  have h1 := List.all_eq_true.1 (List.all_eq_true.1 good_all m.toNat hM) ps (strong_mem h hd)
  rwa [show ((m.toNat : Nat) : Int) = m by omega] at h1
theorem fs_in {A : Type} {t : Nat → Option A} {p : A → Prop} : ∀ {m k : Nat} {a : A}, (∀ j b, j < k + m → t j = some b → p b) → fs t k m = some a → p a
  | 0, k, a, h, e => by cases e
  | m + 1, k, a, h, e => by
    unfold fs at e
    cases e1 : t k with
    | none => rw [e1] at e; exact fs_in (fun j b hj hb => h j b (by omega) hb) e
    | some b => rw [e1] at e; cases e; exact h k _ (by omega) e1
theorem fAd_ok {m : Int} {ps : List (List Int)} : ∀ {k : Nat} {as l : List Int}, (∀ a ∈ as, 1 ≤ a ∧ a ≤ m - 1) → (isAdd m ps as = true ∨ 0 < k) → fAd m ps k as = some l → isAdd m ps l = true ∧ ∀ a ∈ l, 1 ≤ a ∧ a ≤ m - 1
  | 0, as, l, ha, hi, h => by
    cases h
    rcases hi with hi | hi
    · exact ⟨hi, ha⟩
    · exact absurd hi (Nat.lt_irrefl _)
  | k + 1, as, l, ha, _, h => by
    unfold fAd at h
    refine fs_in (p := fun l => isAdd m ps l = true ∧ ∀ a ∈ l, 1 ≤ a ∧ a ≤ m - 1) (fun j b hj hb => ?_) h
    split at hb
    · rename_i hA
      exact fAd_ok (ha_app ha (by omega)) (.inl hA) hb
    · cases hb
theorem first_add {m : Int} {ps : List (List Int)} (h : (firstOf m ps).2 = 0) : addOf m ps (firstOf m ps).1 = (true, 0) := by
  unfold firstOf at h ⊢
  by_cases hs : stCode m ps = 0
  · rw [if_pos hs] at h ⊢
    obtain ⟨hn, hok, hlen⟩ := stCode_zero hs
    cases e : fAd m ps ps.length [] with
    | none => rw [e] at h; cases h
    | some l =>
      obtain ⟨h1, h2⟩ := fAd_ok (fun a ha => absurd ha List.not_mem_nil) (.inr (by omega)) e
      have hll := fAd_len e
      have hs' := hs
      unfold stCode at hs'
      split at hs'
      · rename_i hc
        split at hs'
        · rename_i hst
          have hC : adC m ps l = true := by
            unfold adC
            rw [Bool.and_eq_true, decide_eq_true_eq, List.all_eq_true]
            exact ⟨by simp at hll; omega, fun a ha => inB_t (h2 a ha)⟩
          show addOf m ps l = _
          unfold addOf
          rw [if_pos hc, if_pos hC, if_pos hst, h1]
        · omega
      · omega
  · rw [if_neg hs] at h; exact absurd h hs
end Go.Proofs.YtdafmafigcljkaaGreat
namespace Go.Proofs.YtdafmafigcljkaaGreat
open Go Am
set_option linter.unusedVariables false
set_option linter.unusedSimpArgs false
theorem fs_ok : (FS.all fun n => holdB (D_impl_FirstStrong 8589934693 n) fun x => holdB (D_spec_FirstStrong 8589934693 n) fun y =>
    decide (x.2 = y.2) && (holdB (D_laws_rows5 8589934693 x.1 y.1) id && (!decide (x.2 = 0) || holdB (D_impl_IsStrong 8589934693 n x.1) fun z => decide (z = (true, 0))))) = true := by kernel_rfl
theorem cs_ok : (CS.all fun u => holdB (D_impl_CountStarters 8589934693 u) fun x => holdB (D_spec_CountStarters 8589934693 u) fun y =>
    decide (x = y) && (decide (x.2.2.1 ≤ x.2.1) && decide (x.2.1 ≤ x.1))) = true := by kernel_rfl
theorem strong_all {m : Int} {ps : List (List Int)} (h : (strongAdd m ps).2 = 0) : (3 ≤ m ∧ m ≤ 13) ∧ addOf m ps (strongAdd m ps).1 = (true, 0) ∧ (mulOf m (m - 1) ps).2 = 0 ∧ orthOf m ps (mulOf m (m - 1) ps).1 = (true, 0) ∧ (firstOf m ps).2 = 0 := by
  unfold strongAdd at h ⊢
  by_cases h1 : stCode m ps = 0
  · rw [if_pos h1] at h ⊢
    by_cases h2 : difN (sms m ps) = true
    · rw [if_pos h2]
      have hg := strong_good h1 h2
      have hn := (stCode_zero h1).1
      unfold good3 at hg
      simp only [Bool.and_eq_true, decide_eq_true_eq] at hg
      exact ⟨by omega, hg⟩
    · rw [if_neg h2] at h; cases h
  · rw [if_neg h1] at h; exact absurd h h1
theorem fnAdders_law {a : List Int} (hB : U8 a) : D_laws_FnAdders 8589934693 a = some true := by
  have hf : Big 8589934693 := by unfold Big; decide
  suffices hs : ∃ y, D_laws_FnAdders 8589934693 a = some y ∧ y = true by
    obtain ⟨y, h1, rfl⟩ := hs; exact h1
  unfold D_laws_FnAdders D_laws_big
  rw [Option.bind_some]
  by_cases hl : (4096 : Int) < ((a.length : Nat) : Int)
  · rw [bif_dt hl]; exact ⟨_, rfl, rfl⟩
  rw [bif_df hl]
  have hl' : a.length ≤ 4096 := by omega
  refine bind_ex (strongDraw_D hB hl') ?_
  rintro ⟨m, ps⟩ hp
  dsimp only at hp ⊢
  have e1 := strongAdd_eqs hf m (ps := ps) (by omega)
  have e2 := first_eqs (fu := 8589934693) (by decide) m (ps := ps) (by omega)
  have p1 := @strong_all m ps
  have p2 := @first_add m ps
  have q1 := strongAdd_len m ps
  have q2 := firstOf_len m ps
  generalize strongAdd m ps = s at e1 p1 q1
  generalize firstOf m ps = f at e2 p1 p2 q2
  obtain ⟨sa, sc⟩ := s
  obtain ⟨fa, fc⟩ := f
  dsimp only at p1 p2 q1 q2
  rw [e1.2, Option.bind_some]
  dsimp only
  rw [e1.1, Option.bind_some]
  dsimp only
  rw [e2.2, Option.bind_some]
  dsimp only
  rw [e2.1, Option.bind_some]
  dsimp only
  simp only [decide_true, Bool.not_true, bif_false, like_D hf (show sa.length ≤ 4294967296 by omega), like_D hf (show fa.length ≤ 4294967296 by omega), Option.bind_some]
  refine bind_ex (P := fun v => v = .inl ()) ?_ ?_
  · by_cases c : sc = 0
    · obtain ⟨hm, r1, r2, r3, r4⟩ := p1 c
      rw [bif_dt c, iAdd_D hf m (by omega) (by omega), r1, Option.bind_some]
      dsimp only
      rw [chk_in64 (by omega) (by omega), iMul_D hf m (m - 1) (by omega), Option.bind_some]
      have hq := (mulOf_small (m := m) (t := m - 1) (ps := ps)).1
      generalize mulOf m (m - 1) ps = w at r2 r3 hq
      obtain ⟨ns, nc⟩ := w
      dsimp only at r2 r3 hq ⊢
      rw [orth_i hf m (by omega) (by omega), r3, Option.bind_some]
      dsimp only
      subst r2 r4
      exact ⟨_, rfl, rfl⟩
    · rw [bif_df c]; exact ⟨_, rfl, rfl⟩
  rintro _ rfl
  dsimp only
  refine bind_ex (P := fun v => v = .inl ()) ?_ ?_
  · by_cases c : fc = 0
    · rw [bif_dt c, iAdd_D hf m (by omega) (by omega), p2 c, Option.bind_some]
      exact ⟨_, rfl, rfl⟩
    · rw [bif_df c]; exact ⟨_, rfl, rfl⟩
  rintro _ rfl
  dsimp only
  refine bind_ex (fsDraw_D hB hl') ?_
  intro n hn
  obtain ⟨⟨x1, x2⟩, f1, hx⟩ := ex_of (List.all_eq_true.1 fs_ok n hn)
  obtain ⟨⟨y1, y2⟩, f2, hy⟩ := ex_of hx
  simp only [Bool.and_eq_true, decide_eq_true_eq] at hy
  obtain ⟨hc, hr, hi⟩ := hy
  obtain ⟨b, f3, hb⟩ := ex_of hr
  subst hc
  have hb' : b = true := hb
  subst hb'
  rw [f1, Option.bind_some]
  dsimp only
  rw [f2, Option.bind_some]
  dsimp only
  rw [f3]
  simp only [decide_true, Bool.not_true, bif_false, Option.bind_some]
  refine bind_ex (P := fun v => v = .inl ()) ?_ ?_
  · by_cases c : x2 = 0
    · rw [decide_eq_true c, Bool.not_true, Bool.false_or] at hi
      obtain ⟨z, f4, hz⟩ := ex_of hi
      obtain rfl := of_decide_eq_true hz
      rw [bif_dt c, f4, Option.bind_some]
      exact ⟨_, rfl, rfl⟩
    · rw [bif_df c]; exact ⟨_, rfl, rfl⟩
  rintro _ rfl
  dsimp only
  refine bind_ex (isAdderDraw_D hB hl') ?_
  rintro ⟨k, os, ls⟩ ⟨g1, g2⟩
  dsimp only at g1 g2 ⊢
  rw [iAdd_D hf k (by omega) (by omega), Option.bind_some]
  generalize e3 : addOf k os ls = v
  obtain ⟨v1, v2⟩ := v
  dsimp only
  rw [sAdd_D hf k (by omega) (by omega), e3, Option.bind_some]
  dsimp only
  refine bind_ex (orthDraw_D hB hl') ?_
  rintro ⟨j, so, mo⟩ ⟨g3, g4⟩
  dsimp only at g3 g4 ⊢
  rw [orth_i hf j (by omega) (by omega), Option.bind_some]
  generalize e4 : orthOf j so mo = v
  obtain ⟨v3, v4⟩ := v
  dsimp only
  rw [orth_s hf j (by omega) (by omega), e4, Option.bind_some]
  dsimp only
  refine bind_ex (csDraw_D hB hl') ?_
  intro u hu
  obtain ⟨⟨a1, a2, a3, a4⟩, f5, h5⟩ := ex_of (List.all_eq_true.1 cs_ok u hu)
  obtain ⟨z, f6, h6⟩ := ex_of h5
  simp only [Bool.and_eq_true, decide_eq_true_eq] at h6
  obtain ⟨rfl, k1, k2⟩ := h6
  rw [f5, Option.bind_some]
  dsimp only
  rw [f6, Option.bind_some]
  dsimp only
  refine ⟨_, rfl, ?_⟩
  simp only [decide_true, Bool.and_eq_true, decide_eq_true_eq, beq_self_eq_true, true_and]
  exact ⟨k1, k2⟩
end Go.Proofs.YtdafmafigcljkaaGreat
