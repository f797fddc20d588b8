/-
  Draws. Plain Lean, no program, no condition.
-/
import Derived.Test.YtdafmafigcljkaaDA
import Derived.Test.YtdafmafigcljkaaDSa
import Derived.Test.YtdafmafigcljkaaDSb
import Derived.Test.YtdafmafigcljkaaDSc
import Derived.Test.YtdafmafigcljkaaPuH
import Derived.Test.YtdafmafigcljkaaPuFB
import Derived.KernelRfl
namespace Go.Proofs.Ytdafmafigcljkaa
open Go Am
set_option linter.unusedVariables false
set_option linter.unusedSimpArgs false

def U8 (l : List Int) : Prop := ∀ x ∈ l, 0 ≤ x ∧ x < 256
def At (a : List Int) (t : Int) : Prop := 0 ≤ t ∧ t ≤ (a.length : Int) ∧ a.length ≤ 4096
theorem mask_le (y : Int) : 0 ≤ IntKind.i64.wrap (iand .u64 y 16777215) ∧ IntKind.i64.wrap (iand .u64 y 16777215) ≤ 16777215 := by
  have h1 : (BitVec.ofInt (IntKind.bits .u64) y &&& BitVec.ofInt (IntKind.bits .u64) 16777215).toNat ≤ 16777215 := by
    rw [BitVec.toNat_and]
    exact Nat.and_le_right
  unfold iand
  generalize (BitVec.ofInt (IntKind.bits .u64) y &&& BitVec.ofInt (IntKind.bits .u64) 16777215).toNat = q at h1
  have e1 : IntKind.u64.wrap (q : Int) = q := by
    unfold IntKind.wrap
    simp only [IntKind.signed, IntKind.bits, Bool.false_and, Bool.false_eq_true, if_false]
    omega
  have e2 : IntKind.i64.wrap (q : Int) = q := by
    unfold IntKind.wrap
    have : ¬ ((q : Int) % 2 ^ 64 ≥ 2 ^ 63) := by omega
    simp only [IntKind.signed, IntKind.bits, Bool.true_and]
    rw [if_neg (by simpa using (by omega : ¬ (2 ^ 63 ≤ (q : Int) % 2 ^ 64)))]
    omega
  rw [e1, e2]; omega
theorem next_D {fu : Nat} {a : List Int} (hB : U8 a) {t : Int} (ht : At a t) (h n : Int) : ∃ x t' h', D_spec_l01Next fu n a t h = some (x, t', h') ∧ At a t' ∧ 0 ≤ x ∧ (x < n ∨ (n < 1 ∧ x = 0)) := by
  unfold D_spec_l01Next
  obtain ⟨t0, t1, t2⟩ := ht
  by_cases hn : n < 1
  · rw [bif_dt hn]; exact ⟨0, t, h, rfl, ⟨t0, t1, t2⟩, Int.le_refl _, .inr ⟨hn, rfl⟩⟩
  · rw [bif_df hn]
    have hm := mask_le (ishr .u64 (IntKind.u64.wrap (IntKind.u64.wrap (h * 6364136223846793005) + 1442695040888963407)) 33)
    generalize IntKind.i64.wrap (iand .u64 (ishr .u64 (IntKind.u64.wrap (IntKind.u64.wrap (h * 6364136223846793005) + 1442695040888963407)) 33) 16777215) = y at hm
    have key : ∀ z : Int, 0 ≤ z → 0 ≤ z.tmod n ∧ z.tmod n < n := fun z hz => ⟨Int.tmod_nonneg _ hz, Int.tmod_lt_of_pos _ (by omega)⟩
    by_cases hl : t < (a.length : Int)
    · have hx := hB _ (rd_mem (l := a) (k := t.toNat) (by omega))
      simp (disch := omega) only [bif_dt, chk_inR, chk_in64, Option.bind_some]
      obtain ⟨k1, k2⟩ := key (y + rd a t.toNat) (by omega)
      refine ⟨_, _, _, by exact chk_ne (by omega), ⟨by omega, by omega, t2⟩, k1, .inl k2⟩
    · rw [bif_df hl, Option.bind_some]
      obtain ⟨k1, k2⟩ := key y hm.1
      exact ⟨_, _, _, by exact chk_ne (by omega), ⟨t0, t1, t2⟩, k1, .inl k2⟩
theorem pick_D {fu : Nat} {a : List Int} (hB : U8 a) {t : Int} (ht : At a t) (h : Int) {l : List Int} {k : Nat} (hl : l.length = k) (h0 : 0 < k) : ∃ x t' h', D_spec_l01Pick fu a t h k l = some (x, t', h') ∧ At a t' ∧ x ∈ l := by
  unfold D_spec_l01Pick
  obtain ⟨x, t', h', e, g1, g2, g3⟩ := next_D (fu := fu) hB ht h (k : Int)
  rw [e, Option.bind_some]
  refine ⟨rd l x.toNat, t', h', by exact chk_inR (by omega) (by omega), g1, rd_mem (by omega)⟩
theorem from_D {fu : Nat} (hf : Big fu) {a : List Int} (hl : a.length ≤ 4096) : ∃ h, D_spec_l01From fu a = some (0, h) := by
  unfold D_spec_l01From
  obtain ⟨r, h1, _⟩ := loop_inv (fu := fu) (step := D_spec_l01From_s0 fu a) (fun k (s : Int × Int) => s.2 = (k : Int)) (fun _ => True) a.length (by unfold Big at hf; omega) (by
    rintro k ⟨x, y⟩ hk rfl
    refine ⟨(IntKind.u64.wrap (IntKind.u64.wrap (IntKind.u64.wrap (x * 1099511628211) + (IntKind.u64.wrap (rd a (k : Int).toNat))) + 223), (k : Int) + 1), ?_, by push_cast; rfl⟩
    unfold D_spec_l01From_s0
    dsimp only
    rw [decide_eq_true (by omega), decide_eq_true (by omega), Bool.and_self, bif_true, chk_inR (by omega) (by omega), chk_in64 (by omega) (by omega)]) (by
    rintro ⟨x, y⟩ rfl
    refine ⟨x, ?_, trivial⟩
    unfold D_spec_l01From_s0
    dsimp only
    rw [decide_eq_false (by omega), Bool.false_and, bif_false]) (s := (IntKind.u64.wrap (13791 + (IntKind.u64.wrap ((a.length : Nat) : Int))), 0)) rfl
  exact ⟨r, by rw [h1, Option.bind_some]⟩
theorem own_D {fu : Nat} {l : List Int} (hl : l.length ≤ 4294967296) : D_spec_l01Own fu l = some l := by
  unfold D_spec_l01Own
  first
    | rw [chk_le (by omega)]
    | (simp (disch := omega) only [chk_le, Nat.zero_add]; done)
theorem order_D {fu : Nat} (hf : Big fu) {a : List Int} (hB : U8 a) {t : Int} (ht : At a t) (h : Int) {n : Int} (hn : 0 ≤ n ∧ n ≤ 100) : ∃ o t' h', D_spec_l01DrawOrder fu n a t h = some (o, t', h') ∧ At a t' ∧ isOrd n o = true := by
  unfold D_spec_l01DrawOrder
  obtain ⟨r, h1, h2⟩ := loop_inv (fu := fu) (step := D_spec_l01DrawOrder_s0 fu n a) (fun k (s : Int × Int × List Int × Int) => At a s.1 ∧ s.2.2.2 = (k : Int) ∧ s.2.2.1.length = k ∧ (∀ x ∈ s.2.2.1, 0 ≤ x ∧ x < (k : Int)) ∧ s.2.2.1.Nodup) (fun (r : Int × Int × List Int) => At a r.1 ∧ isOrd n r.2.2 = true) n.toNat (by unfold Big at hf; omega) (by
    rintro k ⟨t1, h1, o, i⟩ hk ⟨g1, rfl, g2, g3, g4⟩
    dsimp only at g1 g2 g3 g4
    obtain ⟨x, t2, h2, e, f1, f2, f3⟩ := next_D (fu := fu) hB g1 h1 ((k : Int) + 1)
    have hx : x.toNat ≤ o.length := by omega
    refine ⟨(t2, h2, (o.take x.toNat ++ [(k : Int)]) ++ o.drop x.toNat, (k : Int) + 1), ?_, f1, by push_cast; rfl, ?_, ?_, ?_⟩
    · unfold D_spec_l01DrawOrder_s0
      dsimp only
      rw [bif_dt (by omega), chk_in64 (by omega) (by omega), e, Option.bind_some, chk_and (by omega) (by omega), own_D (by rw [List.length_take]; omega), Option.bind_some, chk_le (by rw [List.length_take]; omega), chk_and (by omega) (by omega), chk_le (by rw [List.length_append, List.length_take]; simp; omega), chk_in64 (by omega) (by omega)]
    · simp only [List.length_append, List.length_take, List.length_drop, List.length_cons, List.length_nil]; omega
    · intro y hy
      simp only [List.mem_append, List.mem_singleton] at hy
      rcases hy with (hy | rfl) | hy
      · have := g3 y (List.mem_of_mem_take hy); push_cast; omega
      · push_cast; omega
      · have := g3 y (List.mem_of_mem_drop hy); push_cast; omega
    · have hp : ((o.take x.toNat ++ [(k : Int)]) ++ o.drop x.toNat).Perm ((k : Int) :: o) := by
        have := List.perm_middle (a := (k : Int)) (l₁ := o.take x.toNat) (l₂ := o.drop x.toNat)
        rw [List.take_append_drop] at this
        simpa using this
      exact hp.nodup_iff.2 (List.nodup_cons.2 ⟨fun hm => by have := g3 _ hm; omega, g4⟩)) (by
    rintro ⟨t1, h1, o, i⟩ ⟨g1, rfl, g2, g3, g4⟩
    dsimp only at g1 g2 g3 g4
    refine ⟨(t1, h1, o), ?_, g1, ?_⟩
    · unfold D_spec_l01DrawOrder_s0
      dsimp only
      rw [bif_df (by omega)]
    · unfold isOrd
      rw [decide_eq_true (show ((o.length : Nat) : Int) = n by omega), Bool.true_and, Bool.and_eq_true, List.all_eq_true]
      exact ⟨fun x hx => inB_t (by have := g3 x hx; omega), decide_eq_true g4⟩) (s := (t, h, [], 0)) ⟨ht, rfl, rfl, fun x hx => absurd hx List.not_mem_nil, List.nodup_nil⟩
  obtain ⟨t1, h3, o⟩ := r
  exact ⟨o, t1, h3, by rw [h1, Option.bind_some], h2.1, h2.2⟩
theorem sfree_D {fu : Nat} (hf : Big fu) {n : Int} (hn : 0 ≤ n ∧ n ≤ 14) : D_spec_l01Free fu n = some (frI n.toNat) := by
  unfold Big at hf
  unfold D_spec_l01Free
  rw [loop_seq (fun k => (frI k, (k : Int))) n.toNat (frI n.toNat) (by omega) ?_ ?_ (s := ((List.replicate 14 0), 0)) ?_]
  · rfl
  · intro k hk
    unfold D_spec_l01Free_s0
    simp (disch := omega) only [bif_dt, chk_inR, chk_in64, Int.toNat_natCast]
    rw [frI_set (by omega)]; rfl
  · unfold D_spec_l01Free_s0
    simp (disch := omega) only [bif_df]
  · simp [frI]; rfl
def okQ (p : List Int) : Prop := p.length = 2 ∧ (0 ≤ rd p 0 ∧ rd p 0 < 14) ∧ (0 ≤ rd p 1 ∧ rd p 1 < 14)
theorem made_D {fu : Nat} (hf : Big fu) {n : Int} (hn : 0 ≤ n ∧ n ≤ 14) {ps : List (List Int)} (hl : ps.length ≤ 100) (hok : ∀ p ∈ ps, okQ p) : ∃ r, D_spec_l01Made fu n ps = some r ∧ r.length = 14 := by
  have hf' := hf
  unfold Big at hf
  unfold D_spec_l01Made
  rw [sfree_D hf' hn, Option.bind_some]
  obtain ⟨r, h1, h2⟩ := loop_inv (fu := fu) (step := D_spec_l01Made_s0 fu ps) (fun k (s : List Int × Int) => s.2 = (k : Int) ∧ s.1.length = 14) (fun r => r.length = 14) ps.length (by omega) (by
    rintro k ⟨r, i⟩ hk ⟨rfl, hr⟩
    dsimp only at hr
    obtain ⟨o0, o1, o2⟩ := hok _ (rw_mem hk)
    refine ⟨((r.set (rd (rw_ ps k) 0).toNat (rd (rw_ ps k) 1)).set (rd (rw_ ps k) 1).toNat (rd (rw_ ps k) 0), (k : Int) + 1), ?_, by push_cast; rfl, by simpa using hr⟩
    unfold D_spec_l01Made_s0
    simp (disch := omega) only [bif_dt, chk_inR, chk_in64, Int.toNat_natCast]) (by
    rintro ⟨r, i⟩ ⟨rfl, hr⟩
    refine ⟨r, ?_, hr⟩
    unfold D_spec_l01Made_s0
    simp (disch := omega) only [bif_df]) (s := (frI n.toNat, 0)) ⟨rfl, frI_len _⟩
  exact ⟨r, by rw [h1]; rfl, h2⟩
theorem round_D {fu : Nat} (hf : Big fu) {a : List Int} (hB : U8 a) {t : Int} (ht : At a t) (h : Int) {n : Int} (hn : 0 ≤ n ∧ n ≤ 14) : ∃ r t' h', D_spec_l01DrawRound fu n a t h = some (r, t', h') ∧ At a t' ∧ r.length = 14 := by
  unfold D_spec_l01DrawRound
  obtain ⟨o, t1, h1, e1, f1, f2⟩ := order_D hf hB ht h (n := n) ⟨by omega, by omega⟩
  obtain ⟨x, t2, h2, e2, g1, g2, g3⟩ := next_D (fu := fu) hB f1 h1 3
  obtain ⟨hol, hob, _⟩ := isOrd_of f2
  rw [e1, Option.bind_some]
  dsimp only
  rw [e2, Option.bind_some]
  dsimp only
  obtain ⟨r, k1, k2⟩ := loop_inv (fu := fu) (step := D_spec_l01DrawRound_s0 fu n a o x) (fun k (s : Int × Int × List (List Int) × Int) => At a s.1 ∧ s.2.2.2 = 2 * (k : Int) ∧ s.2.2.1.length ≤ k ∧ ∀ p ∈ s.2.2.1, okQ p) (fun (r : Int × Int × List (List Int)) => At a r.1 ∧ r.2.2.length ≤ 14 ∧ ∀ p ∈ r.2.2, okQ p) (n.toNat / 2) (by unfold Big at hf; omega) (by
    rintro k ⟨t1, h1, ps, i⟩ hk ⟨g1, rfl, g2, g3⟩
    dsimp only at g1 g2 g3
    have r1 := hob _ (rd_mem (l := o) (k := (2 * (k : Int)).toNat) (by omega))
    have r2 := hob _ (rd_mem (l := o) (k := (2 * (k : Int) + 1).toNat) (by omega))
    have key : ∃ t2 h2 b, (bif !(decide (x = 0)) then (some (t1, h1, true)) else ((D_spec_l01Next fu 2 a t1 h1).bind fun (x562, x563, x564) => some (x563, x564, decide (x562 = 0)))) = some (t2, h2, b) ∧ At a t2 := by
      by_cases hx : x = 0
      · rw [bif_nt hx]
        obtain ⟨y, t2, h2, e, f1, _⟩ := next_D (fu := fu) hB g1 h1 2
        exact ⟨t2, h2, decide (y = 0), by rw [e]; rfl, f1⟩
      · rw [bif_nf hx]; exact ⟨t1, h1, true, rfl, g1⟩
    obtain ⟨t2, h2, b, e, f1⟩ := key
    cases b with
    | true =>
      refine ⟨(t2, h2, ps ++ [[rd o (2 * (k : Int)).toNat, rd o (2 * (k : Int) + 1).toNat]], 2 * (k : Int) + 2), ?_, f1, by push_cast; omega, by simp; omega, fun p hp => ?_⟩
      · unfold D_spec_l01DrawRound_s0
        dsimp only
        rw [chk_in64 (by omega) (by omega), bif_dt (by omega), e, Option.bind_some]
        dsimp only
        rw [bif_true, chk_inR (by omega) (by omega), chk_in64 (by omega) (by omega), chk_inR (by omega) (by omega), chk_le (by omega), chk_in64 (by omega) (by omega)]
      · rcases List.mem_append.1 hp with hp | hp
        · exact g3 p hp
        · rw [List.mem_singleton.1 hp]
          exact ⟨rfl, ⟨r1.1, by show rd o (2 * (k : Int)).toNat < 14; omega⟩, ⟨r2.1, by show rd o (2 * (k : Int) + 1).toNat < 14; omega⟩⟩
    | false =>
      refine ⟨(t2, h2, ps, 2 * (k : Int) + 2), ?_, f1, by push_cast; omega, by show ps.length ≤ k + 1; omega, g3⟩
      unfold D_spec_l01DrawRound_s0
      dsimp only
      rw [chk_in64 (by omega) (by omega), bif_dt (by omega), e, Option.bind_some]
      dsimp only
      rw [bif_false, chk_in64 (by omega) (by omega)]) (by
    rintro ⟨t1, h1, ps, i⟩ ⟨g1, rfl, g2, g3⟩
    dsimp only at g1 g2 g3
    refine ⟨(t1, h1, ps), ?_, g1, by show ps.length ≤ 14; omega, g3⟩
    unfold D_spec_l01DrawRound_s0
    dsimp only
    rw [chk_in64 (by omega) (by omega), bif_df (by omega)]) (s := (t2, h2, [], 0)) ⟨g1, rfl, Nat.le_refl _, fun p hp => absurd hp List.not_mem_nil⟩
  obtain ⟨t3, h3, ps⟩ := r
  obtain ⟨m1, m2, m3⟩ := k2
  dsimp only at m1 m2 m3
  obtain ⟨q, q1, q2⟩ := made_D hf (n := n) hn (ps := ps) (by omega) m3
  rw [k1, Option.bind_some]
  dsimp only
  rw [q1, Option.bind_some]
  exact ⟨q, t3, h3, rfl, m1, q2⟩
abbrev fu0 : Nat := 8589934593
theorem big0 : Big fu0 := by unfold Big fu0; omega
def okR (n : Int) (r : List Int) : Prop := r.length = 14 ∧ ∀ x ∈ r, 0 ≤ x ∧ x < n
def okRb (n : Int) (r : List Int) : Bool := decide (r.length = 14) && r.all fun x => decide (0 ≤ x) && decide (x < n)
theorem okRb_of {n : Int} {r : List Int} (h : okRb n r = true) : okR n r := by
  unfold okRb at h
  rw [Bool.and_eq_true, decide_eq_true_eq, List.all_eq_true] at h
  exact ⟨h.1, fun x hx => by have := h.2 x hx; simpa using this⟩
theorem circ_k : ∀ k : Fin 13, (match D_spec_l01Circle fu0 ((k.val : Int) + 2) with | some (n, rs) => decide (n = (k.val : Int) + 2) && decide (rs.length ≤ 13) && rs.all (okRb n) | none => false) = true := by decide +kernel
theorem circ_D {n : Int} (hn : 2 ≤ n ∧ n ≤ 14) : ∃ rs, D_spec_l01Circle fu0 n = some (n, rs) ∧ rs.length ≤ 13 ∧ ∀ r ∈ rs, okR n r := by
  have h := circ_k ⟨(n - 2).toNat, by omega⟩
  have e : ((((⟨(n - 2).toNat, by omega⟩ : Fin 13).val : Nat) : Int)) + 2 = n := by show (((n - 2).toNat : Nat) : Int) + 2 = n; omega
  rw [e] at h
  cases hc : D_spec_l01Circle fu0 n with
  | none => rw [hc] at h; cases h
  | some v =>
    obtain ⟨m, rs⟩ := v
    rw [hc] at h
    simp only [Bool.and_eq_true, decide_eq_true_eq, List.all_eq_true] at h
    obtain ⟨⟨rfl, h2⟩, h3⟩ := h
    exact ⟨rs, rfl, h2, fun r hr => okRb_of (h3 r hr)⟩
theorem ren_D {fu : Nat} (hf : Big fu) {n : Int} (hn : 2 ≤ n ∧ n ≤ 14) {p : List Int} {rs : List (List Int)} (hp : isOrd n p = true) (hr : ∀ r ∈ rs, okR n r) (h40 : rs.length ≤ 100) : ∃ rs', D_spec_l01Renamed fu n rs p = some (n, rs') ∧ rs'.length = rs.length ∧ ∀ r ∈ rs', okR n r := by
  obtain ⟨hl, hb, hd⟩ := isOrd_of hp
  unfold Big at hf
  unfold D_spec_l01Renamed
  obtain ⟨q, q1, q2, q3⟩ := loop_inv (fu := fu) (step := D_spec_l01Renamed_s0 fu n rs p) (fun k (s : List (List Int) × Int) => s.2 = (k : Int) ∧ s.1.length = k ∧ ∀ r ∈ s.1, okR n r) (fun r => r.length = rs.length ∧ ∀ x ∈ r, okR n x) rs.length (by omega) (by
    rintro k ⟨o, i⟩ hk ⟨rfl, h1, h2⟩
    dsimp only at h1 h2
    obtain ⟨l1, l2⟩ := hr _ (rw_mem hk)
    obtain ⟨x, x1, x2⟩ := loop_inv (fu := fu) (step := D_spec_l01Renamed_s1 fu n rs p (k : Int)) (fun j (s : List Int × Int) => s.2 = (j : Int) ∧ okR n s.1) (fun r => okR n r) n.toNat (by omega) (by
      rintro j ⟨xs, i⟩ hj ⟨rfl, g1, g2⟩
      dsimp only at g1 g2
      have r1 := hb _ (rd_mem (l := p) (k := j) (by omega))
      have r2 := l2 _ (rd_mem (l := rw_ rs k) (k := j) (by omega))
      have r3 := hb _ (rd_mem (l := p) (k := (rd (rw_ rs k) j).toNat) (by omega))
      refine ⟨(xs.set (rd p j).toNat (rd p (rd (rw_ rs k) j).toNat), (j : Int) + 1), ?_, by push_cast; rfl, by simpa using g1, fun y hy => ?_⟩
      · unfold D_spec_l01Renamed_s1
        simp (disch := omega) only [bif_dt, chk_inR, chk_in64, Int.toNat_natCast]
      · rcases List.mem_or_eq_of_mem_set hy with hy | hy
        · exact g2 y hy
        · omega) (by
      rintro ⟨xs, i⟩ ⟨rfl, g1⟩
      refine ⟨xs, ?_, g1⟩
      unfold D_spec_l01Renamed_s1
      simp (disch := omega) only [bif_df]) (s := (List.replicate 14 0, 0)) ⟨rfl, by simp, fun y hy => by have := List.eq_of_mem_replicate hy; omega⟩
    refine ⟨(o ++ [x], (k : Int) + 1), ?_, by push_cast; rfl, by simp; omega, fun y hy => ?_⟩
    · unfold D_spec_l01Renamed_s0
      dsimp only
      rw [bif_dt (by omega), x1, Option.bind_some, chk_le (by omega), chk_in64 (by omega) (by omega)]
    · rcases List.mem_append.1 hy with hy | hy
      · exact h2 y hy
      · rw [List.mem_singleton.1 hy]; exact x2) (by
    rintro ⟨o, i⟩ ⟨rfl, h1, h2⟩
    refine ⟨o, ?_, h1, h2⟩
    unfold D_spec_l01Renamed_s0
    simp (disch := omega) only [bif_df]) (s := ([], 0)) ⟨rfl, rfl, fun y hy => absurd hy List.not_mem_nil⟩
  exact ⟨q, by rw [q1]; rfl, q2, q3⟩
theorem reo_D {fu : Nat} (hf : Big fu) {n : Int} {p : List Int} {rs : List (List Int)} (hp : isOrd (rs.length : Int) p = true) (hr : ∀ r ∈ rs, okR n r) (h40 : rs.length ≤ 100) : ∃ rs', D_spec_l01Reordered fu n rs p = some (n, rs') ∧ rs'.length = rs.length ∧ ∀ r ∈ rs', okR n r := by
  obtain ⟨hl, hb, hd⟩ := isOrd_of hp
  unfold Big at hf
  unfold D_spec_l01Reordered
  obtain ⟨q, q1, q2, q3⟩ := loop_inv (fu := fu) (step := D_spec_l01Reordered_s0 fu rs p) (fun k (s : List (List Int) × Int) => s.2 = (k : Int) ∧ s.1.length = k ∧ ∀ r ∈ s.1, okR n r) (fun r => r.length = rs.length ∧ ∀ x ∈ r, okR n x) rs.length (by omega) (by
    rintro k ⟨o, i⟩ hk ⟨rfl, h1, h2⟩
    dsimp only at h1 h2
    have r1 := hb _ (rd_mem (l := p) (k := k) (by omega))
    refine ⟨(o ++ [rw_ rs (rd p k).toNat], (k : Int) + 1), ?_, by push_cast; rfl, by simp; omega, fun y hy => ?_⟩
    · unfold D_spec_l01Reordered_s0
      simp (disch := omega) only [bif_dt, chk_inR, chk_le, chk_in64, Int.toNat_natCast]
    · rcases List.mem_append.1 hy with hy | hy
      · exact h2 y hy
      · rw [List.mem_singleton.1 hy]; exact hr _ (rw_mem (by omega))) (by
    rintro ⟨o, i⟩ ⟨rfl, h1, h2⟩
    refine ⟨o, ?_, h1, h2⟩
    unfold D_spec_l01Reordered_s0
    simp (disch := omega) only [bif_df]) (s := ([], 0)) ⟨rfl, rfl, fun y hy => absurd hy List.not_mem_nil⟩
  exact ⟨q, by rw [q1]; rfl, q2, q3⟩
theorem robin_D {a : List Int} (hB : U8 a) {t : Int} (ht : At a t) (h : Int) : ∃ n rs t' h', D_spec_l01DrawRobin fu0 a t h = some (n, rs, t', h') ∧ At a t' ∧ (2 ≤ n ∧ n ≤ 14) ∧ rs.length ≤ 13 ∧ ∀ r ∈ rs, okR n r := by
  unfold D_spec_l01DrawRobin
  obtain ⟨n, t1, h1, e1, f1, f2⟩ := pick_D (fu := fu0) hB ht h (l := [2, 3, 4, 4, 5, 6, 6, 7, 8, 8, 9, 10, 12, 14]) (k := 14) rfl (by omega)
  have hn : 2 ≤ n ∧ n ≤ 14 := by simp at f2; omega
  obtain ⟨rs, c1, c2, c3⟩ := circ_D hn
  obtain ⟨x, t2, h2, e2, g1, _⟩ := next_D (fu := fu0) hB f1 h1 3
  rw [e1, Option.bind_some]; dsimp only
  rw [c1, Option.bind_some]; dsimp only
  rw [e2, Option.bind_some]; dsimp only
  have key : ∃ t3 h3 rs3, (bif decide (0 < x) then ((D_spec_l01DrawOrder fu0 n a t2 h2).bind fun (xs216, x217, x218) => (D_spec_l01Renamed fu0 n rs xs216).bind fun (x231, rs232) => some (x217, x218, x231, rs232)) else (some (t2, h2, n, rs))) = some (t3, h3, n, rs3) ∧ At a t3 ∧ rs3.length ≤ 13 ∧ ∀ r ∈ rs3, okR n r := by
    by_cases hx : 0 < x
    · rw [bif_dt hx]
      obtain ⟨o, t3, h3, e, f, fo⟩ := order_D big0 hB g1 h2 (n := n) ⟨by omega, by omega⟩
      obtain ⟨rs', r1, r2, r3⟩ := ren_D big0 hn fo c3 (by omega)
      rw [e, Option.bind_some]; dsimp only
      rw [r1, Option.bind_some]
      exact ⟨t3, h3, rs', rfl, f, by omega, r3⟩
    · rw [bif_df hx]; exact ⟨t2, h2, rs, rfl, g1, c2, c3⟩
  obtain ⟨t3, h3, rs3, e3, k1, k2, k3⟩ := key
  rw [e3, Option.bind_some]; dsimp only
  obtain ⟨y, t4, h4, e4, m1, _⟩ := next_D (fu := fu0) hB k1 h3 3
  rw [e4, Option.bind_some]; dsimp only
  by_cases hy : 0 < y
  · rw [bif_dt hy]
    obtain ⟨o, t5, h5, e, f, fo⟩ := order_D big0 hB m1 h4 (n := (rs3.length : Int)) ⟨by omega, by omega⟩
    obtain ⟨rs', r1, r2, r3⟩ := reo_D big0 (n := n) fo k3 (by omega)
    rw [e, Option.bind_some]; dsimp only
    rw [r1, Option.bind_some]
    exact ⟨n, rs', t5, h5, rfl, f, hn, by omega, r3⟩
  · rw [bif_df hy]; exact ⟨n, rs3, t4, h4, rfl, m1, hn, k2, k3⟩
theorem all_snoc {m : Nat} {rs : List (List Int)} {r : List Int} (h : All m rs) (hr : r.length = m) : All m (rs ++ [r]) := fun y hy => by
  rcases List.mem_append.1 hy with hy | hy
  · exact h y hy
  · rw [List.mem_singleton.1 hy]; exact hr
/-- rounds are drawn and put behind others -/
theorem more_D {step : Int × Int × List (List Int) × Int → Option (Lo (Int × Int × List (List Int) × Int) (Int × Int × List (List Int)))} {a : List Int} (hB : U8 a) {n : Int} (hn : 0 ≤ n ∧ n ≤ 14)
    (hgo : ∀ t h rs c, 0 < c → step (t, h, rs, c) = (D_spec_l01DrawRound fu0 n a t h).bind fun (xs389, x390, x391) => chk (rs.length + 1 ≤ 4294967296) <| chk (in64 (c - 1)) <| some (.go (x390, x391, (rs ++ [xs389]), c - 1)))
    (hout : ∀ t h rs c, ¬ 0 < c → step (t, h, rs, c) = some (.out (t, h, rs)))
    {t h c : Int} {rs : List (List Int)} (ht : At a t) (hc : 0 ≤ c ∧ c ≤ 40) (hr : All 14 rs) (hl : rs.length ≤ 40) : ∃ t' h' rs', loopF step fu0 (t, h, rs, c) = some (t', h', rs') ∧ At a t' ∧ All 14 rs' ∧ rs'.length ≤ rs.length + c.toNat := by
  obtain ⟨r, h1, h2⟩ := loop_inv (fu := fu0) (step := step) (fun k (s : Int × Int × List (List Int) × Int) => At a s.1 ∧ All 14 s.2.2.1 ∧ s.2.2.1.length ≤ rs.length + k ∧ s.2.2.2 = c - (k : Int)) (fun (r : Int × Int × List (List Int)) => At a r.1 ∧ All 14 r.2.2 ∧ r.2.2.length ≤ rs.length + c.toNat) c.toNat (by unfold fu0; omega) (by
    rintro k ⟨t1, h1, os, i⟩ hk ⟨g1, g2, g3, rfl⟩
    dsimp only at g1 g2 g3
    obtain ⟨x, t2, h2, e, f1, f2⟩ := round_D big0 hB g1 h1 hn
    refine ⟨(t2, h2, os ++ [x], c - (k : Int) - 1), ?_, f1, all_snoc g2 f2, by simp; omega, by push_cast; omega⟩
    rw [hgo _ _ _ _ (by omega), e, Option.bind_some]
    dsimp only
    rw [chk_le (by omega), chk_in64 (by omega) (by omega)]) (by
    rintro ⟨t1, h1, os, i⟩ ⟨g1, g2, g3, rfl⟩
    exact ⟨(t1, h1, os), hout _ _ _ _ (by omega), g1, g2, g3⟩) (s := (t, h, rs, c)) ⟨ht, hr, Nat.le_refl _, by simp⟩
  obtain ⟨t1, h3, os⟩ := r
  exact ⟨t1, h3, os, h1, h2.1, h2.2.1, h2.2.2⟩
theorem okR_all {n : Int} {rs : List (List Int)} (h : ∀ r ∈ rs, okR n r) : All 14 rs := fun r hr => (h r hr).1
theorem all_take' {m l : Nat} {rs : List (List Int)} (h : All m rs) : All m (rs.take l) := fun r hr => h r (List.mem_of_mem_take hr)
theorem draw_D {a : List Int} (hB : U8 a) {t : Int} (ht : At a t) (h : Int) : ∃ n rs t' h', D_spec_l01Draw fu0 a t h = some (n, rs, t', h') ∧ At a t' ∧ (2 ≤ n ∧ n ≤ 14) ∧ rs.length ≤ 40 ∧ All 14 rs := by
  unfold D_spec_l01Draw
  obtain ⟨n, rs, t1, h1, e1, f1, hn, f2, f3⟩ := robin_D hB ht h
  obtain ⟨x, t2, h2, e2, g1, g2, g3⟩ := next_D (fu := fu0) hB f1 h1 4
  rw [e1, Option.bind_some]; dsimp only
  rw [e2, Option.bind_some]; dsimp only
  by_cases h0 : x = 0
  · rw [bif_dt h0]; exact ⟨n, rs, t2, h2, rfl, g1, hn, by omega, okR_all f3⟩
  rw [bif_df h0]
  by_cases hx1 : x = 1
  · rw [bif_dt hx1, chk_in64 (by omega) (by omega)]
    obtain ⟨y, t3, h3, e3, k1, k2, k3⟩ := next_D (fu := fu0) hB g1 h2 ((rs.length : Int) + 1)
    obtain ⟨z, t4, h4, e4, m1, m2, m3⟩ := next_D (fu := fu0) hB k1 h3 3
    rw [e3, Option.bind_some]; dsimp only
    rw [chk_and (by omega) (by omega), e4, Option.bind_some]; dsimp only
    obtain ⟨t5, h5, os, e5, q1, q2, q3⟩ := more_D (step := D_spec_l01Draw_s0 fu0 a n) hB (n := n) ⟨by omega, by omega⟩ (by
      intro t h rs c hc; unfold D_spec_l01Draw_s0; dsimp only; rw [bif_dt hc]) (by
      intro t h rs c hc; unfold D_spec_l01Draw_s0; dsimp only; rw [bif_df hc]) (h := h4) (c := z) (rs := rs.take y.toNat) m1 ⟨m2, by omega⟩ (all_take' (okR_all f3)) (by rw [List.length_take]; omega)
    rw [e5, Option.bind_some]
    rw [List.length_take] at q3
    exact ⟨n, os, t5, h5, rfl, q1, hn, by omega, q2⟩
  rw [bif_df hx1]
  by_cases hx2 : x = 2
  · rw [bif_dt hx2, chk_in64 (by omega) (by omega), bif_dt (by omega)]
    obtain ⟨y, t3, h3, e3, k1, k2, k3⟩ := next_D (fu := fu0) hB g1 h2 2
    rw [e3, Option.bind_some]; dsimp only
    rw [Option.bind_some]; dsimp only
    by_cases hy : y = 0
    · rw [bif_dt hy]
      obtain ⟨o, t4, h4, e4, m1, mo⟩ := order_D big0 hB k1 h3 (n := n) ⟨by omega, by omega⟩
      obtain ⟨rs', r1, r2, r3⟩ := ren_D big0 hn mo f3 (by omega)
      rw [e4, Option.bind_some]; dsimp only
      rw [r1, Option.bind_some]; dsimp only
      rw [chk_le (by omega), Option.bind_some]
      refine ⟨n, rs ++ rs', t4, h4, rfl, m1, hn, by rw [List.length_append]; omega, fun r hr => ?_⟩
      rcases List.mem_append.1 hr with hr | hr
      · exact (f3 r hr).1
      · exact (r3 r hr).1
    · rw [bif_df hy, Option.bind_some]; exact ⟨n, rs, t3, h3, rfl, k1, hn, by omega, okR_all f3⟩
  · rw [bif_df hx2]
    obtain ⟨y, t3, h3, e3, k1, k2, k3⟩ := next_D (fu := fu0) hB g1 h2 13
    obtain ⟨z, t4, h4, e4, m1, m2⟩ := pick_D (fu := fu0) hB k1 h3 (l := [4, 10, 41]) (k := 3) rfl (by omega)
    have hz : z = 4 ∨ z = 10 ∨ z = 41 := by simpa using m2
    obtain ⟨c, t5, h5, e5, p1, p2, p3⟩ := next_D (fu := fu0) hB m1 h4 z
    rw [e3, Option.bind_some]; dsimp only
    rw [chk_in64 (by omega) (by omega), e4, Option.bind_some]; dsimp only
    rw [e5, Option.bind_some]; dsimp only
    obtain ⟨t6, h6, os, e6, q1, q2, q3⟩ := more_D (step := D_spec_l01Draw_s1 fu0 a y) hB (n := 2 + y) ⟨by omega, by omega⟩ (by
      intro t h rs c hc; unfold D_spec_l01Draw_s1; dsimp only; rw [bif_dt hc]) (by
      intro t h rs c hc; unfold D_spec_l01Draw_s1; dsimp only; rw [bif_df hc]) (h := h5) (c := c) (rs := []) p1 ⟨p2, by omega⟩ (fun r hr => absurd hr List.not_mem_nil) (Nat.zero_le _)
    rw [e6, Option.bind_some]
    have q4 : os.length ≤ 0 + c.toNat := q3
    exact ⟨2 + y, os, t6, h6, rfl, q1, ⟨by omega, by omega⟩, by omega, q2⟩
theorem bad_D {a : List Int} (hB : U8 a) {t : Int} (ht : At a t) (h : Int) {n : Int} {rs : List (List Int)} (hn : 2 ≤ n ∧ n ≤ 14) (hl : rs.length ≤ 40) (hA : All 14 rs) : ∃ n' rs' t' h', D_spec_l01Bad fu0 n rs a t h = some (n', rs', t', h') ∧ At a t' ∧ (-1 ≤ n' ∧ n' ≤ 15) ∧ rs'.length ≤ 41 ∧ All 14 rs' := by
  unfold D_spec_l01Bad D_spec_l01Copy
  rw [chk_le (by omega), Option.bind_some]; dsimp only
  obtain ⟨x, t1, h1, e1, g1, g2, g3⟩ := next_D (fu := fu0) hB ht h 50
  rw [e1, Option.bind_some]; dsimp only
  by_cases h0 : x = 0
  · rw [bif_dt h0, chk_in64 (by omega) (by omega)]
    obtain ⟨z, t2, h2, e2, m1, m2⟩ := pick_D (fu := fu0) hB g1 h1 (l := [1, 15, 0, (-1), n + 1]) (k := 5) rfl (by omega)
    rw [e2, Option.bind_some]
    have hz : z = 1 ∨ z = 15 ∨ z = 0 ∨ z = -1 ∨ z = n + 1 := by simpa using m2
    exact ⟨z, rs, t2, h2, rfl, m1, ⟨by omega, by omega⟩, by omega, hA⟩
  rw [bif_df h0]
  by_cases hx1 : x = 1
  · rw [bif_dt hx1]
    by_cases hr : 0 < (rs.length : Int)
    · rw [bif_dt hr, chk_inR (by omega) (by omega)]
      obtain ⟨y, t2, h2, e2, k1, k2, k3⟩ := next_D (fu := fu0) hB g1 h1 14
      obtain ⟨z, t3, h3, e3, m1, m2⟩ := pick_D (fu := fu0) hB k1 h2 (l := [1, 0, (-1), 14]) (k := 4) rfl (by omega)
      rw [e2, Option.bind_some]; dsimp only
      rw [e3, Option.bind_some]; dsimp only
      rw [chk_inR (by omega) (by omega), chk_inR (by omega) (by omega)]
      refine ⟨n, _, t3, h3, rfl, m1, ⟨by omega, by omega⟩, by rw [List.length_set]; omega, fun r hr' => ?_⟩
      rcases List.mem_or_eq_of_mem_set hr' with hr' | hr'
      · exact hA r hr'
      · rw [hr', List.length_set]; exact hA _ (rw_mem (by omega))
    · rw [bif_df hr]; exact ⟨n, rs, t1, h1, rfl, g1, ⟨by omega, by omega⟩, by omega, hA⟩
  rw [bif_df hx1]
  by_cases hx2 : x = 2
  · rw [bif_dt hx2]
    obtain ⟨os, q1, q2, q3⟩ := loop_inv (fu := fu0) (step := D_spec_l01Bad_s0 fu0 n) (fun k (s : List (List Int)) => s.length = rs.length + k ∧ All 14 s) (fun (r : List (List Int)) => r.length ≤ 41 ∧ All 14 r) (41 - rs.length) (by unfold fu0; omega) (by
      rintro k os hk ⟨g1, g2⟩
      refine ⟨os ++ [frI n.toNat], ?_, by simp; omega, all_snoc g2 (frI_len _)⟩
      unfold D_spec_l01Bad_s0
      rw [bif_dt (by omega), sfree_D big0 ⟨by omega, by omega⟩, Option.bind_some, chk_le (by omega)]) (by
      rintro os ⟨g1, g2⟩
      refine ⟨os, ?_, by omega, g2⟩
      unfold D_spec_l01Bad_s0
      rw [bif_df (by omega)]) (s := rs) ⟨rfl, hA⟩
    rw [q1, Option.bind_some]
    exact ⟨n, os, t1, h1, rfl, g1, ⟨by omega, by omega⟩, q2, q3⟩
  · rw [bif_df hx2]; exact ⟨n, rs, t1, h1, rfl, g1, ⟨by omega, by omega⟩, by omega, hA⟩
theorem perfect_D {a : List Int} (hB : U8 a) (hl : a.length ≤ 4096) : ∃ n rs, D_spec_DrawIsPerfect fu0 a = some (n, rs) ∧ (-1 ≤ n ∧ n ≤ 15) ∧ rs.length ≤ 41 ∧ All 14 rs := by
  unfold D_spec_DrawIsPerfect
  obtain ⟨h0, e0⟩ := from_D big0 hl
  have ht : At a 0 := ⟨Int.le_refl _, by omega, hl⟩
  obtain ⟨x, t1, h1, e1, g1, g2, g3⟩ := next_D (fu := fu0) hB ht h0 2
  rw [e0, Option.bind_some]; dsimp only
  rw [e1, Option.bind_some]; dsimp only
  by_cases hx : x = 0
  · rw [bif_dt hx]
    obtain ⟨y, t2, h2, e2, k1, k2, k3⟩ := next_D (fu := fu0) hB g1 h1 13
    obtain ⟨rs, c1, c2, c3⟩ := circ_D (n := 2 + y) ⟨by omega, by omega⟩
    rw [e2, Option.bind_some]; dsimp only
    rw [chk_in64 (by omega) (by omega), c1, Option.bind_some]
    exact ⟨2 + y, rs, rfl, ⟨by omega, by omega⟩, by omega, okR_all c3⟩
  · rw [bif_df hx]
    unfold D_spec_l01Spoil
    obtain ⟨n, rs, t2, h2, e2, f1, f2, f3, f4⟩ := draw_D hB g1 h1
    obtain ⟨n', rs', t3, h3, e3, k1, k2, k3, k4⟩ := bad_D hB f1 h2 f2 f3 f4
    rw [e2, Option.bind_some]; dsimp only
    rw [e3, Option.bind_some, Option.bind_some]
    exact ⟨n', rs', rfl, k2, k3, k4⟩
theorem near_D {a : List Int} (hB : U8 a) {t : Int} (ht : At a t) (h : Int) {m : Int} (hm : 0 ≤ m ∧ m ≤ 100) : ∃ x t' h', D_spec_l01Near fu0 m a t h = some (x, t', h') ∧ (-4611686018427387904 ≤ x ∧ x ≤ 1099511627776) := by
  unfold D_spec_l01Near
  obtain ⟨x, t1, h1, e1, g1, g2, g3⟩ := next_D (fu := fu0) hB ht h 14
  rw [e1, Option.bind_some]; dsimp only
  by_cases hx : x = 0
  · rw [bif_dt hx, chk_in64 (by omega) (by omega)]
    obtain ⟨z, t2, h2, e2, m1, m2⟩ := pick_D (fu := fu0) hB g1 h1 (l := [(-1), m + 1, 1099511627776, (-4611686018427387904)]) (k := 4) rfl (by omega)
    rw [e2, Option.bind_some]
    have hz : z = -1 ∨ z = m + 1 ∨ z = 1099511627776 ∨ z = -4611686018427387904 := by simpa using m2
    exact ⟨z, t2, h2, rfl, by omega, by omega⟩
  · rw [bif_df hx, chk_in64 (by omega) (by omega)]
    obtain ⟨y, t2, h2, e2, k1, k2, k3⟩ := next_D (fu := fu0) hB g1 h1 (m + 1)
    rw [e2, Option.bind_some]
    exact ⟨y, t2, h2, rfl, by omega, by omega⟩
theorem badR_D {a : List Int} (hB : U8 a) {t : Int} (ht : At a t) (h : Int) {r : List Int} (hr : r.length = 14) : ∃ r' t' h', D_spec_l01BadRound fu0 r a t h = some (r', t', h') ∧ r'.length = 14 := by
  unfold D_spec_l01BadRound
  obtain ⟨x, t1, h1, e1, g1, g2, g3⟩ := next_D (fu := fu0) hB ht h 24
  rw [e1, Option.bind_some]; dsimp only
  by_cases hx : x = 0
  · rw [bif_dt hx]
    obtain ⟨y, t2, h2, e2, k1, k2, k3⟩ := next_D (fu := fu0) hB g1 h1 14
    obtain ⟨z, t3, h3, e3, m1, m2⟩ := pick_D (fu := fu0) hB k1 h2 (l := [0, 1, (-1), 14]) (k := 4) rfl (by omega)
    rw [e2, Option.bind_some]; dsimp only
    rw [e3, Option.bind_some]; dsimp only
    rw [chk_inR (by omega) (by omega)]
    exact ⟨_, t3, h3, rfl, by rw [List.length_set]; exact hr⟩
  · rw [bif_df hx]; exact ⟨r, t1, h1, rfl, hr⟩
theorem two_D {a : List Int} (hB : U8 a) (hl : a.length ≤ 4096) : ∃ n r q, D_spec_l02Two fu0 a = some (n, r, q) ∧ (0 ≤ n ∧ n ≤ 15) ∧ r.length = 14 ∧ q.length = 14 := by
  unfold D_spec_l02Two
  obtain ⟨h0, e0⟩ := from_D big0 hl
  have ht : At a 0 := ⟨Int.le_refl _, by omega, hl⟩
  obtain ⟨z, t1, h1, e1, m1, m2⟩ := pick_D (fu := fu0) hB ht h0 (l := [6, 9, 13]) (k := 3) rfl (by omega)
  have hz : z = 6 ∨ z = 9 ∨ z = 13 := by simpa using m2
  obtain ⟨x, t2, h2, e2, g1, g2, g3⟩ := next_D (fu := fu0) hB m1 h1 z
  obtain ⟨r, t3, h3, e3, r1, r2⟩ := round_D big0 hB g1 h2 (n := 2 + x) ⟨by omega, by omega⟩
  obtain ⟨q, t4, h4, e4, q1, q2⟩ := round_D big0 hB r1 h3 (n := 2 + x) ⟨by omega, by omega⟩
  obtain ⟨m, rs, t5, h5, e5, f1, f2, f3, f4⟩ := robin_D hB q1 h4
  rw [e0, Option.bind_some]; dsimp only
  rw [e1, Option.bind_some]; dsimp only
  rw [e2, Option.bind_some]; dsimp only
  rw [chk_in64 (by omega) (by omega), e3, Option.bind_some]; dsimp only
  rw [e4, Option.bind_some]; dsimp only
  rw [e5, Option.bind_some]; dsimp only
  have k1 : ∃ t6 h6 b, (bif decide (0 < ((rs.length : Nat) : Int)) then ((D_spec_l01Next fu0 2 a t5 h5).bind fun (x267, x268, x269) => some (x268, x269, decide (x267 = 0))) else (some (t5, h5, false))) = some (t6, h6, b) ∧ At a t6 ∧ (b = true → 0 < rs.length) := by
    by_cases hr : 0 < (rs.length : Int)
    · rw [bif_dt hr]
      obtain ⟨y, t6, h6, e6, k1, k2, k3⟩ := next_D (fu := fu0) hB f1 h5 2
      rw [e6, Option.bind_some]
      exact ⟨t6, h6, _, rfl, k1, fun _ => by omega⟩
    · rw [bif_df hr]; exact ⟨t5, h5, false, rfl, f1, fun h => by cases h⟩
  obtain ⟨t6, h6, b, e6, k1, k2⟩ := k1
  rw [e6, Option.bind_some]; dsimp only
  have k3 : ∃ t7 h7 n5 r5 q5, (bif b then ((D_spec_l01Next fu0 ((rs.length : Nat) : Int) a t6 h6).bind fun (x363, x364, x365) => chk (inR x363 rs.length) <| (D_spec_l01Next fu0 ((rs.length : Nat) : Int) a x364 x365).bind fun (x382, x383, x384) => chk (inR x382 rs.length) <| some (x383, x384, m, (rw_ rs x363.toNat), (rw_ rs x382.toNat))) else (some (t6, h6, 2 + x, r, q))) = some (t7, h7, n5, r5, q5) ∧ At a t7 ∧ (2 ≤ n5 ∧ n5 ≤ 14) ∧ r5.length = 14 ∧ q5.length = 14 := by
    cases b with
    | false => exact ⟨t6, h6, 2 + x, r, q, rfl, k1, ⟨by omega, by omega⟩, r2, q2⟩
    | true =>
      have hp := k2 rfl
      obtain ⟨i, t7, h7, e7, i1, i2, i3⟩ := next_D (fu := fu0) hB k1 h6 (rs.length : Int)
      obtain ⟨j, t8, h8, e8, j1, j2, j3⟩ := next_D (fu := fu0) hB i1 h7 (rs.length : Int)
      refine ⟨t8, h8, m, rw_ rs i.toNat, rw_ rs j.toNat, ?_, j1, f2, (f4 _ (rw_mem (by omega))).1, (f4 _ (rw_mem (by omega))).1⟩
      rw [bif_true, e7, Option.bind_some]; dsimp only
      rw [chk_inR (by omega) (by omega), e8, Option.bind_some]; dsimp only
      rw [chk_inR (by omega) (by omega)]
  obtain ⟨t7, h7, n, r', q', e7, k4, k5, k6, k7⟩ := k3
  rw [e7, Option.bind_some]; dsimp only
  obtain ⟨y, t8, h8, e8, y1, y2, y3⟩ := next_D (fu := fu0) hB k4 h7 24
  rw [e8, Option.bind_some]; dsimp only
  have k8 : ∃ t9 h9 n', (bif decide (y = 0) then (chk (in64 (n + 1)) <| (D_spec_l01Pick fu0 a t8 h8 4 [1, 15, n + 1, 0]).bind fun (x481, x482, x483) => some (x482, x483, x481)) else (some (t8, h8, n))) = some (t9, h9, n') ∧ At a t9 ∧ (0 ≤ n' ∧ n' ≤ 15) := by
    by_cases hy : y = 0
    · rw [bif_dt hy, chk_in64 (by omega) (by omega)]
      obtain ⟨z, t9, h9, e9, z1, z2⟩ := pick_D (fu := fu0) hB y1 h8 (l := [1, 15, n + 1, 0]) (k := 4) rfl (by omega)
      have hz : z = 1 ∨ z = 15 ∨ z = n + 1 ∨ z = 0 := by simpa using z2
      rw [e9, Option.bind_some]
      exact ⟨t9, h9, z, rfl, z1, by omega, by omega⟩
    · rw [bif_df hy]; exact ⟨t8, h8, n, rfl, y1, by omega, by omega⟩
  obtain ⟨t9, h9, n', e9, k9, k10⟩ := k8
  rw [e9, Option.bind_some]; dsimp only
  obtain ⟨r'', t10, h10, e10, w⟩ := badR_D hB k9 h9 k6
  rw [e10, Option.bind_some]
  exact ⟨n', r'', q', rfl, k10, w, k7⟩
theorem chain_D {a : List Int} (hB : U8 a) (hl : a.length ≤ 4096) : ∃ n r q x, D_spec_DrawChainFrom fu0 a = some (n, r, q, x) ∧ (0 ≤ n ∧ n ≤ 15) ∧ r.length = 14 ∧ q.length = 14 ∧ (-4611686018427387904 ≤ x ∧ x ≤ 1099511627776) := by
  unfold D_spec_DrawChainFrom
  obtain ⟨h0, e0⟩ := from_D big0 hl
  have ht : At a 0 := ⟨Int.le_refl _, by omega, hl⟩
  obtain ⟨n, r, q, e1, g1, g2, g3⟩ := two_D hB hl
  rw [e0, Option.bind_some]; dsimp only
  rw [e1, Option.bind_some]; dsimp only
  obtain ⟨x, t1, h1, e2, k⟩ := near_D hB ht h0 (m := if 13 < (if 0 > n - 1 then 0 else n - 1) then 13 else (if 0 > n - 1 then 0 else n - 1)) (by split <;> split <;> omega)
  rw [chk_in64 (by omega) (by omega), e2, Option.bind_some]
  exact ⟨n, r, q, x, rfl, g1, g2, g3, k⟩
end Go.Proofs.Ytdafmafigcljkaa

