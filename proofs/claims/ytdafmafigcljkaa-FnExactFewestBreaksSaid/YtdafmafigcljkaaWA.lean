/-
  The program computes that, printed by a program. No condition.
-/
import Derived.Test.YtdafmafigcljkaaDA
import Derived.Test.YtdafmafigcljkaaK5
import Derived.Test.YtdafmafigcljkaaProg
import Derived.KernelRfl
namespace Go.Proofs.Ytdafmafigcljkaa
open Go Go.RowKit Am
set_option linter.unusedVariables false
set_option linter.unusedSimpArgs false
set_option maxRecDepth 20000
theorem mix : Try.prog.follows .mixedOrders = true := by kernel_rfl
set_option maxHeartbeats 4000000 in
theorem W_spec_l01In (fu : Nat) (H : AHeap) (a0 : Int) (a1 : Int) (a2 : Int) (r0 : Bool) (hd : D_spec_l01In fu a0 a1 a2 = some r0) : ACall Try.prog 50 [.int .i64 a0, .int .i64 a1, .int .i64 a2] H (.bool r0) H := by
  refine ACall.bodyP (N := 15) [(0, .int .i64 a0), (1, .int .i64 a1), (2, .int .i64 a2)] Try.func50 rfl rfl rfl rfl ?_
  unfold D_spec_l01In at hd
  have S0 : St [] H H [] := St.nil H
  refine AX.seq ?_
  refine AX.region ?_
  refine AO.p rfl (p_assign rfl) ?_
  refine AO.nil ?_
  refine AX.cut (fun t' H' => H = H' ∧ Am.Sub [(6, .bool ((decide (a1 ≤ a0)) && (decide (a0 ≤ a2))))] t') ?_ ?_
  · skip
    refine AX.region ?_
    refine AO.p rfl (p_move rfl) ?_
    refine AO.p rfl (p_move rfl) ?_
    refine AO.p rfl (p_geq rfl rfl) ?_
    refine AO.p rfl (p_move rfl) ?_
    refine AO.cases (d := 10) rfl (fun c103 => ?_) (fun c103 => ?_)
    · skip
      refine AO.gp rfl rfl rfl (p_move rfl) ?_
      refine AO.gp rfl rfl rfl (p_move rfl) ?_
      refine AO.gp rfl rfl rfl (p_leq rfl rfl) ?_
      refine AO.p rfl (p_pickT rfl rfl) ?_
      refine AO.p rfl (p_assign rfl) ?_
      refine AO.nil ?_
      exact ⟨rfl, Sub.cons' rfl (bool_eq (by simp only [c103, Bool.true_and, Bool.false_and, Bool.and_true, Bool.and_false, Bool.true_or, Bool.false_or, Bool.or_true, Bool.or_false, Bool.not_true, Bool.not_false, cond_true, cond_false])) (Sub.nil _)⟩
    · skip
      refine AO.gn rfl rfl rfl ?_
      refine AO.gn rfl rfl rfl ?_
      refine AO.gn rfl rfl rfl ?_
      refine AO.p rfl (p_pickF rfl rfl) ?_
      refine AO.p rfl (p_assign rfl) ?_
      refine AO.nil ?_
      exact ⟨rfl, Sub.cons' rfl (bool_eq (by simp only [c103, Bool.true_and, Bool.false_and, Bool.and_true, Bool.and_false, Bool.true_or, Bool.false_or, Bool.or_true, Bool.or_false, Bool.not_true, Bool.not_false, cond_true, cond_false])) (Sub.nil _)⟩
  · rintro t' _ ⟨rfl, hsub104⟩
    refine AX.sub hsub104 ?_
    refine AX.ret ?_
    obtain rfl := some_inj hd
    exact ⟨.inr rfl, _, res1 rfl (rv_tmp rfl), rfl, (flatB_ok rfl), S0.hold⟩

set_option maxHeartbeats 4000000 in
theorem W_impl_between (fu : Nat) (H : AHeap) (a0 : Int) (a1 : Int) (a2 : Int) (r0 : Bool) (hd : D_impl_between fu a0 a1 a2 = some r0) : ACall Try.prog 52 [.int .i64 a0, .int .i64 a1, .int .i64 a2] H (.bool r0) H := by
  refine ACall.bodyP (N := 15) [(0, .int .i64 a0), (1, .int .i64 a1), (2, .int .i64 a2)] Try.func52 rfl rfl rfl rfl ?_
  unfold D_impl_between at hd
  have S0 : St [] H H [] := St.nil H
  refine AX.seq ?_
  refine AX.region ?_
  refine AO.p rfl (p_assign rfl) ?_
  refine AO.nil ?_
  refine AX.cut (fun t' H' => H = H' ∧ Am.Sub [(6, .bool ((decide (a1 ≤ a0)) && (decide (a0 ≤ a2))))] t') ?_ ?_
  · skip
    refine AX.region ?_
    refine AO.p rfl (p_move rfl) ?_
    refine AO.p rfl (p_move rfl) ?_
    refine AO.p rfl (p_geq rfl rfl) ?_
    refine AO.p rfl (p_move rfl) ?_
    refine AO.cases (d := 10) rfl (fun c103 => ?_) (fun c103 => ?_)
    · skip
      refine AO.gp rfl rfl rfl (p_move rfl) ?_
      refine AO.gp rfl rfl rfl (p_move rfl) ?_
      refine AO.gp rfl rfl rfl (p_leq rfl rfl) ?_
      refine AO.p rfl (p_pickT rfl rfl) ?_
      refine AO.p rfl (p_assign rfl) ?_
      refine AO.nil ?_
      exact ⟨rfl, Sub.cons' rfl (bool_eq (by simp only [c103, Bool.true_and, Bool.false_and, Bool.and_true, Bool.and_false, Bool.true_or, Bool.false_or, Bool.or_true, Bool.or_false, Bool.not_true, Bool.not_false, cond_true, cond_false])) (Sub.nil _)⟩
    · skip
      refine AO.gn rfl rfl rfl ?_
      refine AO.gn rfl rfl rfl ?_
      refine AO.gn rfl rfl rfl ?_
      refine AO.p rfl (p_pickF rfl rfl) ?_
      refine AO.p rfl (p_assign rfl) ?_
      refine AO.nil ?_
      exact ⟨rfl, Sub.cons' rfl (bool_eq (by simp only [c103, Bool.true_and, Bool.false_and, Bool.and_true, Bool.and_false, Bool.true_or, Bool.false_or, Bool.or_true, Bool.or_false, Bool.not_true, Bool.not_false, cond_true, cond_false])) (Sub.nil _)⟩
  · rintro t' _ ⟨rfl, hsub104⟩
    refine AX.sub hsub104 ?_
    refine AX.ret ?_
    obtain rfl := some_inj hd
    exact ⟨.inr rfl, _, res1 rfl (rv_tmp rfl), rfl, (flatB_ok rfl), S0.hold⟩

set_option maxHeartbeats 4000000 in
theorem W_impl_isModulus (fu : Nat) (H : AHeap) (a0 : Int) (r0 : Bool) (hd : D_impl_isModulus fu a0 = some r0) : ACall Try.prog 58 [.int .i64 a0] H (.bool r0) H := by
  refine ACall.bodyP (N := 10) [(0, .int .i64 a0)] Try.func58 rfl rfl rfl rfl ?_
  unfold D_impl_isModulus at hd
  have S0 : St [] H H [] := St.nil H
  refine AX.seq ?_
  refine AX.region ?_
  refine AO.p rfl (p_assign rfl) ?_
  refine AO.nil ?_
  obtain ⟨r108, hb109, hd110⟩ := bnd_some hd
  refine AX.cut (fun t' H' => ∃ (b107 : Bool), b107 = r108 ∧ St [] H H' [] ∧ Am.Sub [(2, .bool b107)] t') ?_ ?_
  · skip
    refine AX.region ?_
    refine AO.p rfl (p_move rfl) ?_
    obtain ⟨b111, h112, hd113⟩ := bnd_some hb109
    refine AO.c rfl (o_call (vs := [.int .i64 a0, .int .i64 3, .int .i64 13]) rfl Try.call52 (W_impl_between fu H a0 3 13 b111 h112)) ?_
    refine AO.p rfl (p_move rfl) ?_
    refine AO.cases (d := 5) rfl (fun c115 => ?_) (fun c115 => ?_)
    · have hd116 := bif_t c115 hd113
      refine AO.gp rfl rfl rfl (p_move rfl) ?_
      refine AO.gp rfl rfl rfl (p_remE rfl rfl (by decide)) ?_
      refine AO.gp rfl rfl rfl (p_eql rfl rfl) ?_
      refine AO.p rfl (p_pickT rfl rfl) ?_
      refine AO.p rfl (p_assign rfl) ?_
      refine AO.nil ?_
      exact ⟨(decide (a0.tmod 2 = 1)), (some_inj hd116), S0, Sub.cons' rfl rfl (Sub.nil _)⟩
    · have hd117 := bif_f c115 hd113
      refine AO.gn rfl rfl rfl ?_
      refine AO.gn rfl rfl rfl ?_
      refine AO.gn rfl rfl rfl ?_
      refine AO.p rfl (p_pickF rfl rfl) ?_
      refine AO.p rfl (p_assign rfl) ?_
      refine AO.nil ?_
      exact ⟨false, (some_inj hd117), S0, Sub.cons' rfl rfl (Sub.nil _)⟩
  · rintro t' G119 ⟨b107, rfl, S118, hsub120⟩
    refine AX.sub hsub120 ?_
    refine AX.ret ?_
    obtain rfl := some_inj hd110
    exact ⟨.inr rfl, _, res1 rfl (rv_tmp rfl), rfl, (flatB_ok rfl), S118.hold⟩

set_option maxHeartbeats 4000000 in
theorem W_spec_l03Modulus (fu : Nat) (H : AHeap) (a0 : Int) (r0 : Bool) (hd : D_spec_l03Modulus fu a0 = some r0) : ACall Try.prog 55 [.int .i64 a0] H (.bool r0) H := by
  refine ACall.bodyP (N := 10) [(0, .int .i64 a0)] Try.func55 rfl rfl rfl rfl ?_
  unfold D_spec_l03Modulus at hd
  have S0 : St [] H H [] := St.nil H
  refine AX.seq ?_
  refine AX.region ?_
  refine AO.p rfl (p_assign rfl) ?_
  refine AO.nil ?_
  obtain ⟨r108, hb109, hd110⟩ := bnd_some hd
  refine AX.cut (fun t' H' => ∃ (b107 : Bool), b107 = r108 ∧ St [] H H' [] ∧ Am.Sub [(2, .bool b107)] t') ?_ ?_
  · skip
    refine AX.region ?_
    refine AO.p rfl (p_move rfl) ?_
    obtain ⟨b111, h112, hd113⟩ := bnd_some hb109
    refine AO.c rfl (o_call (vs := [.int .i64 a0, .int .i64 3, .int .i64 13]) rfl Try.call50 (W_spec_l01In fu H a0 3 13 b111 h112)) ?_
    refine AO.p rfl (p_move rfl) ?_
    refine AO.cases (d := 5) rfl (fun c115 => ?_) (fun c115 => ?_)
    · have hd116 := bif_t c115 hd113
      refine AO.gp rfl rfl rfl (p_move rfl) ?_
      refine AO.gp rfl rfl rfl (p_remE rfl rfl (by decide)) ?_
      refine AO.gp rfl rfl rfl (p_eql rfl rfl) ?_
      refine AO.p rfl (p_pickT rfl rfl) ?_
      refine AO.p rfl (p_assign rfl) ?_
      refine AO.nil ?_
      exact ⟨(decide (a0.tmod 2 = 1)), (some_inj hd116), S0, Sub.cons' rfl rfl (Sub.nil _)⟩
    · have hd117 := bif_f c115 hd113
      refine AO.gn rfl rfl rfl ?_
      refine AO.gn rfl rfl rfl ?_
      refine AO.gn rfl rfl rfl ?_
      refine AO.p rfl (p_pickF rfl rfl) ?_
      refine AO.p rfl (p_assign rfl) ?_
      refine AO.nil ?_
      exact ⟨false, (some_inj hd117), S0, Sub.cons' rfl rfl (Sub.nil _)⟩
  · rintro t' G119 ⟨b107, rfl, S118, hsub120⟩
    refine AX.sub hsub120 ?_
    refine AX.ret ?_
    obtain rfl := some_inj hd110
    exact ⟨.inr rfl, _, res1 rfl (rv_tmp rfl), rfl, (flatB_ok rfl), S118.hold⟩

set_option maxHeartbeats 4000000 in
theorem W_spec_l03Mod (fu : Nat) (H : AHeap) (a0 : Int) (a1 : Int) (r0 : Int) (hd : D_spec_l03Mod fu a0 a1 = some r0) : ACall Try.prog 113 [.int .i64 a0, .int .i64 a1] H (.int .i64 r0) H := by
  refine ACall.bodyP (N := 12) [(0, .int .i64 a0), (1, .int .i64 a1)] Try.func113 rfl rfl rfl rfl ?_
  unfold D_spec_l03Mod at hd
  have S0 : St [] H H [] := St.nil H
  refine AX.seq ?_
  refine AX.region ?_
  refine AO.p rfl (p_assign rfl) ?_
  refine AO.nil ?_
  refine AX.seq ?_
  refine AX.region ?_
  refine AO.p rfl (p_move rfl) ?_
  refine AO.p rfl (p_move rfl) ?_
  obtain ⟨k100, hd101⟩ := chk_some hd
  refine AO.p rfl (p_remE rfl rfl k100) ?_
  refine AO.p rfl (p_move rfl) ?_
  obtain ⟨k102, hd103⟩ := chk_some hd101
  refine AO.p rfl (p_addE rfl rfl k102) ?_
  refine AO.p rfl (p_move rfl) ?_
  obtain ⟨k104, hd105⟩ := chk_some hd103
  refine AO.p rfl (p_remE rfl rfl k104) ?_
  refine AO.p rfl (p_assign rfl) ?_
  refine AO.nil ?_
  refine AX.ret ?_
  obtain rfl := some_inj hd105
  exact ⟨.inr rfl, _, res1 rfl (rv_tmp rfl), rfl, (flatB_ok rfl), S0.hold⟩

set_option maxHeartbeats 4000000 in
theorem W_spec_l03Sums (fu : Nat) (H : AHeap) (a0 : Int) (p_a1 : Option Addr) (c_a1 : Nat) (T_a1 : Tb) (a1 : List (List Int)) (t_a1 : trows T_a1 = a1) (v_a1 : Vw H p_a1 a1.length c_a1 (tcells T_a1)) (w_a1 : TVw H T_a1) (r0 : List Int) (hd : D_spec_l03Sums fu a0 a1 = some r0) : ∃ v G', ACall Try.prog 122 [.int .i64 a0, .slice p_a1 a1.length c_a1] H v G' ∧ ∃ (p_r0 : Option Addr) (c_r0 : Nat), (v = .slice p_r0 r0.length c_r0) ∧ St [] H G' [oseg p_r0 (ints r0)] ∧ Sb p_r0 r0.length c_r0 1 := by
  refine ACall.bodyX (args := [.int .i64 a0, .slice p_a1 a1.length c_a1]) (N := 33) [(0, .int .i64 a0), (1, .slice p_a1 a1.length c_a1)] (fun v G' => ∃ (p_r0 : Option Addr) (c_r0 : Nat), (v = .slice p_r0 r0.length c_r0) ∧ St [] H G' [oseg p_r0 (ints r0)] ∧ Sb p_r0 r0.length c_r0 1) Try.func122 rfl rfl rfl rfl ?_
  unfold D_spec_l03Sums at hd
  have S0 : St [] H H [] := St.nil H
  refine AX.seq ?_
  refine AX.region ?_
  refine AO.p rfl (p_assign rfl) ?_
  refine AO.nil ?_
  refine AX.seq ?_
  refine AX.region ?_
  obtain ⟨G100, i101, hii101, hHG100, S102⟩ := S0.new (AObj.row false (ints []))
  refine AO.c rfl (s_build0 (i := i101) Try.underlying58 Try.sizeOf2 hii101 hHG100) ?_
  refine AO.p rfl (p_assign rfl) ?_
  refine AO.nil ?_
  refine AX.seq ?_
  refine AX.seq ?_
  refine AX.region ?_
  refine AO.p rfl (p_assign rfl) ?_
  refine AO.nil ?_
  obtain ⟨r239, hl240, hd241⟩ := bnd_some hd
  refine AX.cutS (fun t' H' => ∃ (xs238 : List Int) (p236 : Option Addr) (c237 : Nat), xs238 = r239 ∧ St [] H H' [oseg p236 (ints xs238)] ∧ Sb p236 (xs238.length) c237 1 ∧ Am.Sub [(5, .slice p236 xs238.length c237)] t') ?_ ?_
  · refine AX.block ?_
    refine AX.loopF (fun s' t' H' => ∃ (xs193 : List Int) (x194 : Int) (p191 : Option Addr) (c192 : Nat), (xs193, x194) = s' ∧ St [] H H' [oseg p191 (ints xs193)] ∧ Sb p191 (xs193.length) c192 1 ∧ Am.Sub [(0, .int .i64 a0), (1, .slice p_a1 a1.length c_a1), (5, .slice p191 xs193.length c192), (6, .int .i64 x194)] t') hl240 ?_ ?_
    · skip
      have S242 := S102.front 0 rfl
      exact ⟨[], 0, (some (Addr.mk i101 0 none)), 0, rfl, S242, (Sb.lit (n := 0) (by decide)), Sub.cons' rfl rfl (Sub.cons' rfl rfl (Sub.cons' rfl rfl (Sub.cons' rfl rfl (Sub.nil _))))⟩
    · rintro n243 _ t' G247 ⟨xs193, x194, p191, c192, rfl, S246, Bo190, hsub248⟩ o249 ho244 hk245
      refine AX.sub hsub248 ?_
      unfold D_spec_l03Sums_s0 at ho244
      refine AX.seq ?_
      refine AX.seq ?_
      refine AX.region ?_
      refine AO.p rfl (p_move rfl) ?_
      refine AO.p rfl (p_move rfl) ?_
      refine AO.p rfl (p_len_slice rfl Try.underlying43) ?_
      refine AO.p rfl (p_lss rfl rfl) ?_
      refine AO.nil ?_
      refine AX.cond rfl (fun c250 => ?_) (fun c250 => ?_)
      · have hd251 := bif_t c250 ho244
        refine AX.skip ?_
        refine AX.seq ?_
        refine AX.block ?_
        refine DR.startS [false, false, false, false, false, false, false, false, false, false, false, false, false, false, false, false, false, true, false] mix (by kernel_rfl) (fun hst => ?_)
        refine DR.p rfl rfl (p_move rfl) ?_
        refine DR.p rfl rfl (p_move rfl) ?_
        refine DR.p rfl rfl (p_move rfl) ?_
        obtain ⟨k252, hd253⟩ := chk_some hd251
        obtain ⟨p254, c255, e256, f257⟩ := tget t_a1 (lt_len rfl (inR_lt k252))
        refine DR.p rfl rfl (s_indexV (q := off p_a1 + x194.toNat) Try.underlying43 Try.sizeOf58 rfl ((S246.view v_a1).p f257) rfl k252 (o1 _ _)) ?_
        refine DR.r rfl rfl (r_load rfl Try.isAgg58) (one_read ((S246.view v_a1).get _ _ f257) (TVw.at (S246.tview w_a1) e256).inn.bel) ?_
        obtain ⟨k258, hd259⟩ := chk_some hd253
        refine DR.p rfl rfl (s_indexV (q := off p254 + 0) Try.underlying58 Try.sizeOf2 rfl ((TVw.at (S246.tview w_a1) e256).p (ints_get (lt_len rfl (inR_lt k258)))) rfl k258 (o1 _ _)) ?_
        refine DR.r rfl rfl (r_load rfl Try.isAgg2) (one_read ((TVw.at (S246.tview w_a1) e256).get _ _ (ints_get (lt_len rfl (inR_lt k258)))) (.of_flat0 rfl)) ?_
        refine DR.p rfl rfl (p_move rfl) ?_
        refine DR.p rfl rfl (p_move rfl) ?_
        obtain ⟨k260, hd261⟩ := chk_some hd259
        obtain ⟨p262, c263, e264, f265⟩ := tget t_a1 (lt_len rfl (inR_lt k260))
        refine DR.p rfl rfl (s_indexV (q := off p_a1 + x194.toNat) Try.underlying43 Try.sizeOf58 rfl ((S246.view v_a1).p f265) rfl k260 (o1 _ _)) ?_
        refine DR.r rfl rfl (r_load rfl Try.isAgg58) (one_read ((S246.view v_a1).get _ _ f265) (TVw.at (S246.tview w_a1) e264).inn.bel) ?_
        obtain ⟨k266, hd267⟩ := chk_some hd261
        refine DR.p rfl rfl (s_indexV (q := off p262 + 1) Try.underlying58 Try.sizeOf2 rfl ((TVw.at (S246.tview w_a1) e264).p (ints_get (lt_len rfl (inR_lt k266)))) rfl k266 (o1 _ _)) ?_
        refine DR.r rfl rfl (r_load rfl Try.isAgg2) (one_read ((TVw.at (S246.tview w_a1) e264).get _ _ (ints_get (lt_len rfl (inR_lt k266)))) (.of_flat0 rfl)) ?_
        obtain ⟨k268, hd269⟩ := chk_some hd267
        refine DR.p rfl rfl (p_addE rfl rfl k268) ?_
        refine DR.p rfl rfl (p_move rfl) ?_
        obtain ⟨k270, hd271⟩ := chk_some hd269
        refine DR.p rfl rfl (p_remE rfl rfl k270) ?_
        obtain ⟨G272, i273, hii273, hHG272, S274⟩ := S246.new (AObj.row false (ints [(rd (rw_ a1 x194.toNat) 0 + (rd (rw_ a1 x194.toNat) 1)).tmod a0]))
        refine DR.a rfl rfl hii273 hHG272 (a_buildInts (vs := [(0, .int .i64 ((rd (rw_ a1 x194.toNat) 0 + (rd (rw_ a1 x194.toNat) 1)).tmod a0))]) (xs := [(rd (rw_ a1 x194.toNat) 0 + (rd (rw_ a1 x194.toNat) 1)).tmod a0]) Try.underlying58 Try.sizeOf2 Try.zeroValue2 rfl rfl (by decide) rfl rfl) ?_
        obtain ⟨k276, hd277⟩ := chk_some hd271
        obtain ⟨p278, c279, G280, haG280, S281, Bp278⟩ := S274.app (k := 1) rfl Bo190 (ints [(rd (rw_ a1 x194.toNat) 0 + (rd (rw_ a1 x194.toNat) 1)).tmod a0]) 1 (ints_len1 rfl)
        have S282 := S281.cellsEq (k := 1) (us' := ints (xs193 ++ [(rd (rw_ a1 x194.toNat) 0 + (rd (rw_ a1 x194.toNat) 1)).tmod a0])) (ints_app _ _) rfl
        have BS282 : Sb p278 ((xs193 ++ [(rd (rw_ a1 x194.toNat) 0 + (rd (rw_ a1 x194.toNat) 1)).tmod a0]).length) c279 1 := (show xs193.length + 1 = (xs193 ++ [(rd (rw_ a1 x194.toNat) 0 + (rd (rw_ a1 x194.toNat) 1)).tmod a0]).length from len_app (a := xs193) (b := [(rd (rw_ a1 x194.toNat) 0 + (rd (rw_ a1 x194.toNat) 1)).tmod a0]) rfl rfl) ▸ Bp278
        have S283 := S282.drop 0 rfl
        refine DR.w rfl rfl (s_app (by_ := 8) (us := ints xs193) (vs := ints [(rd (rw_ a1 x194.toNat) 0 + (rd (rw_ a1 x194.toNat) 1)).tmod a0]) Try.underlying58 Try.underlying58 Try.typeInfo2 Try.sizeOf2 Try.zeroValue2 rfl rfl rfl rfl rfl rfl rfl (S274.buf (k := 1) rfl Bo190 (ints_len1 rfl)) (S274.oview (k := 0) rfl (Sb.lit (n := 1) (by decide)) (ints_len1 rfl)) (ints_len1 rfl) ints_one k276 haG280 (show xs193.length + 1 = (xs193 ++ [(rd (rw_ a1 x194.toNat) 0 + (rd (rw_ a1 x194.toNat) 1)).tmod a0]).length from len_app (a := xs193) (b := [(rd (rw_ a1 x194.toNat) 0 + (rd (rw_ a1 x194.toNat) 1)).tmod a0]) rfl rfl)) (appR_len haG280) ?_
        refine DR.p rfl rfl (p_assign rfl) ?_
        refine DR.nil 19 [] hst (by kernel_rfl) trivial ?_
        refine AX.region ?_
        refine AO.p rfl (p_move rfl) ?_
        obtain ⟨k284, hd285⟩ := chk_some hd277
        refine AO.p rfl (p_addE rfl rfl k284) ?_
        refine AO.p rfl (p_assign rfl) ?_
        refine AO.nil ?_
        obtain rfl := some_inj hd285
        have S287 := S283.front 0 rfl
        exact ⟨((xs193 ++ [(rd (rw_ a1 x194.toNat) 0 + (rd (rw_ a1 x194.toNat) 1)).tmod a0]), x194 + 1), hk245, (xs193 ++ [(rd (rw_ a1 x194.toNat) 0 + (rd (rw_ a1 x194.toNat) 1)).tmod a0]), (x194 + 1), p278, c279, rfl, S287, BS282, Sub.cons' rfl rfl (Sub.cons' rfl rfl (Sub.cons' rfl rfl (Sub.cons' rfl rfl (Sub.nil _))))⟩
      · have hd288 := bif_f c250 ho244
        refine AX.exit ?_
        obtain rfl := some_inj hd288
        have S289 := S246.front 0 rfl
        exact ⟨xs193, p191, c192, hk245, S289, Bo190, Sub.cons' rfl rfl (Sub.nil _)⟩
  · rintro t' G291 ⟨xs238, p236, c237, rfl, S290, Bo235, hsub292⟩
    refine ⟨_, hsub292, ?_⟩
    refine AX.seq ?_
    refine AX.region ?_
    refine AO.p rfl (p_move rfl) ?_
    refine AO.p rfl (p_assign rfl) ?_
    refine AO.nil ?_
    refine AX.ret ?_
    obtain rfl := some_inj hd241
    have S293 := S290.front 0 rfl
    exact ⟨.inr rfl, _, res1 rfl (rv_tmp rfl), p236, c237, rfl, S293, Bo235⟩

set_option maxHeartbeats 4000000 in
theorem W_impl_sums (fu : Nat) (H : AHeap) (a0 : Int) (p_a1 : Option Addr) (c_a1 : Nat) (T_a1 : Tb) (a1 : List (List Int)) (t_a1 : trows T_a1 = a1) (v_a1 : Vw H p_a1 a1.length c_a1 (tcells T_a1)) (w_a1 : TVw H T_a1) (r0 : List Int) (hd : D_impl_sums fu a0 a1 = some r0) : ∃ v G', ACall Try.prog 124 [.int .i64 a0, .slice p_a1 a1.length c_a1] H v G' ∧ ∃ (p_r0 : Option Addr) (c_r0 : Nat), (v = .slice p_r0 r0.length c_r0) ∧ St [] H G' [oseg p_r0 (ints r0)] ∧ Sb p_r0 r0.length c_r0 1 := by
  refine ACall.bodyX (args := [.int .i64 a0, .slice p_a1 a1.length c_a1]) (N := 29) [(0, .int .i64 a0), (1, .slice p_a1 a1.length c_a1)] (fun v G' => ∃ (p_r0 : Option Addr) (c_r0 : Nat), (v = .slice p_r0 r0.length c_r0) ∧ St [] H G' [oseg p_r0 (ints r0)] ∧ Sb p_r0 r0.length c_r0 1) Try.func124 rfl rfl rfl rfl ?_
  unfold D_impl_sums at hd
  have S0 : St [] H H [] := St.nil H
  refine AX.seq ?_
  refine AX.region ?_
  refine AO.p rfl (p_assign rfl) ?_
  refine AO.nil ?_
  refine AX.seq ?_
  refine AX.region ?_
  obtain ⟨G100, i101, hii101, hHG100, S102⟩ := S0.new (AObj.row false (ints []))
  refine AO.c rfl (s_build0 (i := i101) Try.underlying58 Try.sizeOf2 hii101 hHG100) ?_
  refine AO.p rfl (p_assign rfl) ?_
  refine AO.nil ?_
  refine AX.seq ?_
  refine AX.seq ?_
  refine AX.region ?_
  refine AO.p rfl (p_move rfl) ?_
  refine AO.p rfl (p_len_slice rfl Try.underlying43) ?_
  refine AO.p rfl (p_move rfl) ?_
  refine AO.nil ?_
  obtain ⟨r221, hl222, hd223⟩ := bnd_some hd
  refine AX.cutS (fun t' H' => ∃ (xs220 : List Int) (p218 : Option Addr) (c219 : Nat), xs220 = r221 ∧ St [] H H' [oseg p218 (ints xs220)] ∧ Sb p218 (xs220.length) c219 1 ∧ Am.Sub [(5, .slice p218 xs220.length c219)] t') ?_ ?_
  · refine AX.block ?_
    refine AX.loopF (fun s' t' H' => ∃ (xs181 : List Int) (x182 : Int) (p179 : Option Addr) (c180 : Nat), (xs181, x182) = s' ∧ St [] H H' [oseg p179 (ints xs181)] ∧ Sb p179 (xs181.length) c180 1 ∧ Am.Sub [(0, .int .i64 a0), (5, .slice p179 xs181.length c180), (9, .slice p_a1 a1.length c_a1), (10, .int .i64 ((a1.length : Nat) : Int)), (11, .int .i64 x182)] t') hl222 ?_ ?_
    · skip
      have S224 := S102.front 0 rfl
      exact ⟨[], 0, (some (Addr.mk i101 0 none)), 0, rfl, S224, (Sb.lit (n := 0) (by decide)), Sub.cons' rfl rfl (Sub.cons' rfl rfl (Sub.cons' rfl rfl (Sub.cons' rfl rfl (Sub.cons' rfl rfl (Sub.nil _)))))⟩
    · rintro n225 _ t' G229 ⟨xs181, x182, p179, c180, rfl, S228, Bo178, hsub230⟩ o231 ho226 hk227
      refine AX.sub hsub230 ?_
      unfold D_impl_sums_s0 at ho226
      refine AX.seq ?_
      refine AX.region ?_
      refine AO.p rfl (p_lss rfl rfl) ?_
      refine AO.nil ?_
      refine AX.seq ?_
      refine AX.cond rfl (fun c232 => ?_) (fun c232 => ?_)
      · have hd233 := bif_t c232 ho226
        refine AX.skip ?_
        refine AX.seq ?_
        refine AX.block ?_
        refine AX.seq ?_
        refine AX.region ?_
        obtain ⟨k234, hd235⟩ := chk_some hd233
        obtain ⟨p236, c237, e238, f239⟩ := tget t_a1 (lt_len rfl (inR_lt k234))
        refine AO.p rfl (s_indexV (q := off p_a1 + x182.toNat) Try.underlying43 Try.sizeOf58 rfl ((S228.view v_a1).p f239) rfl k234 (o1 _ _)) ?_
        refine AO.c rfl (s_load Try.isAgg58 rfl ((S228.view v_a1).get _ _ f239)) ?_
        refine AO.p rfl (p_assign rfl) ?_
        refine AO.nil ?_
        refine DR.startS [false, false, false, false, false, false, false, false, false, false, false, true, false] mix (by kernel_rfl) (fun hst => ?_)
        refine DR.p rfl rfl (p_move rfl) ?_
        refine DR.p rfl rfl (p_move rfl) ?_
        obtain ⟨k240, hd241⟩ := chk_some hd235
        refine DR.p rfl rfl (s_indexV (q := off p236 + 0) Try.underlying58 Try.sizeOf2 rfl ((TVw.at (S228.tview w_a1) e238).p (ints_get (lt_len rfl (inR_lt k240)))) rfl k240 (o1 _ _)) ?_
        refine DR.r rfl rfl (r_load rfl Try.isAgg2) (one_read ((TVw.at (S228.tview w_a1) e238).get _ _ (ints_get (lt_len rfl (inR_lt k240)))) (.of_flat0 rfl)) ?_
        refine DR.p rfl rfl (p_move rfl) ?_
        obtain ⟨k242, hd243⟩ := chk_some hd241
        refine DR.p rfl rfl (s_indexV (q := off p236 + 1) Try.underlying58 Try.sizeOf2 rfl ((TVw.at (S228.tview w_a1) e238).p (ints_get (lt_len rfl (inR_lt k242)))) rfl k242 (o1 _ _)) ?_
        refine DR.r rfl rfl (r_load rfl Try.isAgg2) (one_read ((TVw.at (S228.tview w_a1) e238).get _ _ (ints_get (lt_len rfl (inR_lt k242)))) (.of_flat0 rfl)) ?_
        obtain ⟨k244, hd245⟩ := chk_some hd243
        refine DR.p rfl rfl (p_addE rfl rfl k244) ?_
        refine DR.p rfl rfl (p_move rfl) ?_
        obtain ⟨k246, hd247⟩ := chk_some hd245
        refine DR.p rfl rfl (p_remE rfl rfl k246) ?_
        obtain ⟨G248, i249, hii249, hHG248, S250⟩ := S228.new (AObj.row false (ints [(rd (rw_ a1 x182.toNat) 0 + (rd (rw_ a1 x182.toNat) 1)).tmod a0]))
        refine DR.a rfl rfl hii249 hHG248 (a_buildInts (vs := [(0, .int .i64 ((rd (rw_ a1 x182.toNat) 0 + (rd (rw_ a1 x182.toNat) 1)).tmod a0))]) (xs := [(rd (rw_ a1 x182.toNat) 0 + (rd (rw_ a1 x182.toNat) 1)).tmod a0]) Try.underlying58 Try.sizeOf2 Try.zeroValue2 rfl rfl (by decide) rfl rfl) ?_
        obtain ⟨k252, hd253⟩ := chk_some hd247
        obtain ⟨p254, c255, G256, haG256, S257, Bp254⟩ := S250.app (k := 1) rfl Bo178 (ints [(rd (rw_ a1 x182.toNat) 0 + (rd (rw_ a1 x182.toNat) 1)).tmod a0]) 1 (ints_len1 rfl)
        have S258 := S257.cellsEq (k := 1) (us' := ints (xs181 ++ [(rd (rw_ a1 x182.toNat) 0 + (rd (rw_ a1 x182.toNat) 1)).tmod a0])) (ints_app _ _) rfl
        have BS258 : Sb p254 ((xs181 ++ [(rd (rw_ a1 x182.toNat) 0 + (rd (rw_ a1 x182.toNat) 1)).tmod a0]).length) c255 1 := (show xs181.length + 1 = (xs181 ++ [(rd (rw_ a1 x182.toNat) 0 + (rd (rw_ a1 x182.toNat) 1)).tmod a0]).length from len_app (a := xs181) (b := [(rd (rw_ a1 x182.toNat) 0 + (rd (rw_ a1 x182.toNat) 1)).tmod a0]) rfl rfl) ▸ Bp254
        have S259 := S258.drop 0 rfl
        refine DR.w rfl rfl (s_app (by_ := 8) (us := ints xs181) (vs := ints [(rd (rw_ a1 x182.toNat) 0 + (rd (rw_ a1 x182.toNat) 1)).tmod a0]) Try.underlying58 Try.underlying58 Try.typeInfo2 Try.sizeOf2 Try.zeroValue2 rfl rfl rfl rfl rfl rfl rfl (S250.buf (k := 1) rfl Bo178 (ints_len1 rfl)) (S250.oview (k := 0) rfl (Sb.lit (n := 1) (by decide)) (ints_len1 rfl)) (ints_len1 rfl) ints_one k252 haG256 (show xs181.length + 1 = (xs181 ++ [(rd (rw_ a1 x182.toNat) 0 + (rd (rw_ a1 x182.toNat) 1)).tmod a0]).length from len_app (a := xs181) (b := [(rd (rw_ a1 x182.toNat) 0 + (rd (rw_ a1 x182.toNat) 1)).tmod a0]) rfl rfl)) (appR_len haG256) ?_
        refine DR.p rfl rfl (p_assign rfl) ?_
        refine DR.nil 13 [] hst (by kernel_rfl) trivial ?_
        refine AX.region ?_
        obtain ⟨k260, hd261⟩ := chk_some hd253
        refine AO.p rfl (p_addE rfl rfl k260) ?_
        refine AO.p rfl (p_move rfl) ?_
        refine AO.nil ?_
        obtain rfl := some_inj hd261
        have S263 := S259.front 0 rfl
        exact ⟨((xs181 ++ [(rd (rw_ a1 x182.toNat) 0 + (rd (rw_ a1 x182.toNat) 1)).tmod a0]), x182 + 1), hk227, (xs181 ++ [(rd (rw_ a1 x182.toNat) 0 + (rd (rw_ a1 x182.toNat) 1)).tmod a0]), (x182 + 1), p254, c255, rfl, S263, BS258, Sub.cons' rfl rfl (Sub.cons' rfl rfl (Sub.cons' rfl rfl (Sub.cons' rfl rfl (Sub.cons' rfl rfl (Sub.nil _)))))⟩
      · have hd264 := bif_f c232 ho226
        refine AX.exit ?_
        obtain rfl := some_inj hd264
        have S265 := S228.front 0 rfl
        exact ⟨xs181, p179, c180, hk227, S265, Bo178, Sub.cons' rfl rfl (Sub.nil _)⟩
  · rintro t' G267 ⟨xs220, p218, c219, rfl, S266, Bo217, hsub268⟩
    refine ⟨_, hsub268, ?_⟩
    refine AX.seq ?_
    refine AX.region ?_
    refine AO.p rfl (p_move rfl) ?_
    refine AO.p rfl (p_assign rfl) ?_
    refine AO.nil ?_
    refine AX.ret ?_
    obtain rfl := some_inj hd223
    have S269 := S266.front 0 rfl
    exact ⟨.inr rfl, _, res1 rfl (rv_tmp rfl), p218, c219, rfl, S269, Bo217⟩

set_option maxHeartbeats 4000000 in
theorem W_spec_l01Own (fu : Nat) (H : AHeap) (p_a0 : Option Addr) (c_a0 : Nat) (a0 : List Int) (v_a0 : Vw H p_a0 a0.length c_a0 (ints a0)) (r0 : List Int) (hd : D_spec_l01Own fu a0 = some r0) : ∃ v G', ACall Try.prog 114 [.slice p_a0 a0.length c_a0] H v G' ∧ ∃ (p_r0 : Option Addr) (c_r0 : Nat), (v = .slice p_r0 r0.length c_r0) ∧ St [] H G' [oseg p_r0 (ints r0)] ∧ Sb p_r0 r0.length c_r0 1 := by
  refine ACall.bodyX (args := [.slice p_a0 a0.length c_a0]) (N := 6) [(0, .slice p_a0 a0.length c_a0)] (fun v G' => ∃ (p_r0 : Option Addr) (c_r0 : Nat), (v = .slice p_r0 r0.length c_r0) ∧ St [] H G' [oseg p_r0 (ints r0)] ∧ Sb p_r0 r0.length c_r0 1) Try.func114 rfl rfl rfl rfl ?_
  unfold D_spec_l01Own at hd
  have S0 : St [] H H [] := St.nil H
  refine AX.seq ?_
  refine AX.region ?_
  refine AO.p rfl (p_assign rfl) ?_
  refine AO.nil ?_
  refine AX.seq ?_
  refine AX.region ?_
  obtain ⟨G100, i101, hii101, hHG100, S102⟩ := S0.new (AObj.row false (ints []))
  refine AO.c rfl (s_build0 (i := i101) Try.underlying58 Try.sizeOf2 hii101 hHG100) ?_
  refine AO.p rfl (p_move rfl) ?_
  obtain ⟨k104, hd105⟩ := chk_some hd
  obtain ⟨p106, c107, G108, haG108, S109, Bp106⟩ := S102.app (k := 0) rfl (Sb.lit (n := 0) (by decide)) (ints a0) a0.length (ints_len1 rfl)
  have S110 := S109.cellsEq (k := 0) (us' := ints a0) (List.nil_append _) rfl
  have BS110 : Sb p106 (a0.length) c107 1 := (show 0 + a0.length = a0.length from len_nilapp (b := a0) rfl) ▸ Bp106
  refine AO.c rfl (s_app (by_ := 8) (us := ints []) (vs := ints a0) Try.underlying58 Try.underlying58 Try.typeInfo2 Try.sizeOf2 Try.zeroValue2 rfl rfl rfl rfl rfl rfl rfl (S102.buf (k := 0) rfl (Sb.lit (n := 0) (by decide)) (ints_len1 rfl)) (S102.view v_a0) (ints_len1 rfl) ints_one k104 haG108 (show 0 + a0.length = a0.length from len_nilapp (b := a0) rfl)) ?_
  refine AO.p rfl (p_assign rfl) ?_
  refine AO.nil ?_
  refine AX.ret ?_
  obtain rfl := some_inj hd105
  have S111 := S110.front 0 rfl
  exact ⟨.inr rfl, _, res1 rfl (rv_tmp rfl), p106, c107, rfl, S111, BS110⟩

end Go.Proofs.Ytdafmafigcljkaa
