
/-
 The program computes that, printed by a program. No condition.
-/
import Derived.Test.YtdafmafigcljkaaGreatDA
import Derived.Test.YtdafmafigcljkaaGreatK5
import Derived.Test.YtdafmafigcljkaaGreatProg
import Derived.KernelRfl
namespace Go.Proofs.YtdafmafigcljkaaGreat
open Go Go.RowKit Am Go.Proofs.Tryz
set_option linter.unusedVariables false
set_option linter.unusedSimpArgs false
set_option maxRecDepth 20000
theorem mix : Tryz.prog.follows .mixedOrders = true := by kernel_rfl
set_option maxHeartbeats 4000000 in
theorem W_spec_l01In (fu : Nat) (H : AHeap) (a0 : Int) (a1 : Int) (a2 : Int) (r0 : Bool) (hd : D_spec_l01In fu a0 a1 a2 = some r0) : ACall Tryz.prog 56 [.int .i64 a0, .int .i64 a1, .int .i64 a2] H (.bool r0) H := by
 refine ACall.bodyP (N := 15) [(0, .int .i64 a0), (1, .int .i64 a1), (2, .int .i64 a2)] Tryz.func56 rfl rfl rfl rfl ?_
 unfold D_spec_l01In at hd
 have S0 : St [] H H [] := St.nil H
 refine AX.sr (AO.a rfl rfl (AO.nil (AX.cut (fun t' H' => H = H' ∧ Am.Sub [(6, .bool ((decide (a1 ≤ a0)) && (decide (a0 ≤ a2))))] t') ?_ ?_)))
 ·skip
  refine AX.region (AO.m rfl rfl (AO.m rfl rfl (AO.p rfl (p_geq rfl rfl) (AO.m rfl rfl (AO.cases (d := 10) rfl (fun a3 => ?_) (fun a3 => ?_))))))
  ·skip
   refine AO.gp rfl rfl rfl (p_move rfl) (AO.gp rfl rfl rfl (p_move rfl) (AO.gp rfl rfl rfl (p_leq rfl rfl) (AO.p rfl (p_pickT rfl rfl) (AO.a rfl rfl (AO.nil ?_)))))
   exact ⟨rfl, Sub.k1 (congrArg some (bool_eq (by simp only [a3, Bool.true_and, Bool.false_and, Bool.and_true, Bool.and_false, Bool.true_or, Bool.false_or, Bool.or_true, Bool.or_false, Bool.not_true, Bool.not_false, cond_true, cond_false]))) (Sub.nil _)⟩
  ·skip
   refine AO.gn rfl rfl rfl (AO.gn rfl rfl rfl (AO.gn rfl rfl rfl (AO.p rfl (p_pickF rfl rfl) (AO.a rfl rfl (AO.nil ?_)))))
   exact ⟨rfl, Sub.k1 (congrArg some (bool_eq (by simp only [a3, Bool.true_and, Bool.false_and, Bool.and_true, Bool.and_false, Bool.true_or, Bool.false_or, Bool.or_true, Bool.or_false, Bool.not_true, Bool.not_false, cond_true, cond_false]))) (Sub.nil _)⟩
 ·rintro t' _ ⟨rfl, a4⟩
  refine AX.sub a4 (AX.ret ?_)
  obtain rfl := some_inj hd
  exact ⟨.inr rfl, _, res1 rfl (rv_tmp rfl), rfl, (flatB_ok rfl), S0.hold⟩
set_option maxHeartbeats 4000000 in
theorem W_impl_between (fu : Nat) (H : AHeap) (a0 : Int) (a1 : Int) (a2 : Int) (r0 : Bool) (hd : D_impl_between fu a0 a1 a2 = some r0) : ACall Tryz.prog 39 [.int .i64 a0, .int .i64 a1, .int .i64 a2] H (.bool r0) H := by
 refine ACall.bodyP (N := 15) [(0, .int .i64 a0), (1, .int .i64 a1), (2, .int .i64 a2)] Tryz.func39 rfl rfl rfl rfl ?_
 unfold D_impl_between at hd
 have S0 : St [] H H [] := St.nil H
 refine AX.sr (AO.a rfl rfl (AO.nil (AX.cut (fun t' H' => H = H' ∧ Am.Sub [(6, .bool ((decide (a1 ≤ a0)) && (decide (a0 ≤ a2))))] t') ?_ ?_)))
 ·skip
  refine AX.region (AO.m rfl rfl (AO.m rfl rfl (AO.p rfl (p_geq rfl rfl) (AO.m rfl rfl (AO.cases (d := 10) rfl (fun a3 => ?_) (fun a3 => ?_))))))
  ·skip
   refine AO.gp rfl rfl rfl (p_move rfl) (AO.gp rfl rfl rfl (p_move rfl) (AO.gp rfl rfl rfl (p_leq rfl rfl) (AO.p rfl (p_pickT rfl rfl) (AO.a rfl rfl (AO.nil ?_)))))
   exact ⟨rfl, Sub.k1 (congrArg some (bool_eq (by simp only [a3, Bool.true_and, Bool.false_and, Bool.and_true, Bool.and_false, Bool.true_or, Bool.false_or, Bool.or_true, Bool.or_false, Bool.not_true, Bool.not_false, cond_true, cond_false]))) (Sub.nil _)⟩
  ·skip
   refine AO.gn rfl rfl rfl (AO.gn rfl rfl rfl (AO.gn rfl rfl rfl (AO.p rfl (p_pickF rfl rfl) (AO.a rfl rfl (AO.nil ?_)))))
   exact ⟨rfl, Sub.k1 (congrArg some (bool_eq (by simp only [a3, Bool.true_and, Bool.false_and, Bool.and_true, Bool.and_false, Bool.true_or, Bool.false_or, Bool.or_true, Bool.or_false, Bool.not_true, Bool.not_false, cond_true, cond_false]))) (Sub.nil _)⟩
 ·rintro t' _ ⟨rfl, a4⟩
  refine AX.sub a4 (AX.ret ?_)
  obtain rfl := some_inj hd
  exact ⟨.inr rfl, _, res1 rfl (rv_tmp rfl), rfl, (flatB_ok rfl), S0.hold⟩
set_option maxHeartbeats 4000000 in
theorem W_impl_isModulus (fu : Nat) (H : AHeap) (a0 : Int) (r0 : Bool) (hd : D_impl_isModulus fu a0 = some r0) : ACall Tryz.prog 47 [.int .i64 a0] H (.bool r0) H := by
 refine ACall.bodyP (N := 10) [(0, .int .i64 a0)] Tryz.func47 rfl rfl rfl rfl ?_
 unfold D_impl_isModulus at hd
 have S0 : St [] H H [] := St.nil H
 refine AX.sr (AO.a rfl rfl (AO.nil ?_))
 obtain ⟨a4, a5, a6⟩ := bnd_some hd
 refine AX.cut (fun t' H' => ∃ (a1 : Bool), a1 = a4 ∧ St [] H H' [] ∧ Am.Sub [(2, .bool a1)] t') ?_ ?_
 ·skip
  refine AX.region (AO.m rfl rfl ?_)
  obtain ⟨a7, a8, a3⟩ := bnd_some a5
  refine AO.c rfl (o_call (vs := [.int .i64 a0, .int .i64 3, .int .i64 13]) rfl Tryz.call39 (W_impl_between fu H a0 3 13 a7 a8)) (AO.m rfl rfl (AO.cases (d := 5) rfl (fun a2 => ?_) (fun a2 => ?_)))
  ·have a9 := bif_t a2 a3
   refine AO.gp rfl rfl rfl (p_move rfl) (AO.gp rfl rfl rfl (p_remE rfl rfl (by decide)) (AO.gp rfl rfl rfl (p_eql rfl rfl) (AO.p rfl (p_pickT rfl rfl) (AO.a rfl rfl (AO.nil ?_)))))
   exact ⟨(decide (a0.tmod 2 = 1)), (some_inj a9), S0, Sub.k1 rfl (Sub.nil _)⟩
  ·have b0 := bif_f a2 a3
   refine AO.gn rfl rfl rfl (AO.gn rfl rfl rfl (AO.gn rfl rfl rfl (AO.p rfl (p_pickF rfl rfl) (AO.a rfl rfl (AO.nil ?_)))))
   exact ⟨false, (some_inj b0), S0, Sub.k1 rfl (Sub.nil _)⟩
 ·rintro t' b3 ⟨a1, rfl, b1, b2⟩
  refine AX.sub b2 (AX.ret ?_)
  obtain rfl := some_inj a6
  exact ⟨.inr rfl, _, res1 rfl (rv_tmp rfl), rfl, (flatB_ok rfl), b1.hold⟩
set_option maxHeartbeats 4000000 in
theorem W_spec_l03Modulus (fu : Nat) (H : AHeap) (a0 : Int) (r0 : Bool) (hd : D_spec_l03Modulus fu a0 = some r0) : ACall Tryz.prog 50 [.int .i64 a0] H (.bool r0) H := by
 refine ACall.bodyP (N := 10) [(0, .int .i64 a0)] Tryz.func50 rfl rfl rfl rfl ?_
 unfold D_spec_l03Modulus at hd
 have S0 : St [] H H [] := St.nil H
 refine AX.sr (AO.a rfl rfl (AO.nil ?_))
 obtain ⟨a4, a5, a6⟩ := bnd_some hd
 refine AX.cut (fun t' H' => ∃ (a1 : Bool), a1 = a4 ∧ St [] H H' [] ∧ Am.Sub [(2, .bool a1)] t') ?_ ?_
 ·skip
  refine AX.region (AO.m rfl rfl ?_)
  obtain ⟨a7, a8, a3⟩ := bnd_some a5
  refine AO.c rfl (o_call (vs := [.int .i64 a0, .int .i64 3, .int .i64 13]) rfl Tryz.call56 (W_spec_l01In fu H a0 3 13 a7 a8)) (AO.m rfl rfl (AO.cases (d := 5) rfl (fun a2 => ?_) (fun a2 => ?_)))
  ·have a9 := bif_t a2 a3
   refine AO.gp rfl rfl rfl (p_move rfl) (AO.gp rfl rfl rfl (p_remE rfl rfl (by decide)) (AO.gp rfl rfl rfl (p_eql rfl rfl) (AO.p rfl (p_pickT rfl rfl) (AO.a rfl rfl (AO.nil ?_)))))
   exact ⟨(decide (a0.tmod 2 = 1)), (some_inj a9), S0, Sub.k1 rfl (Sub.nil _)⟩
  ·have b0 := bif_f a2 a3
   refine AO.gn rfl rfl rfl (AO.gn rfl rfl rfl (AO.gn rfl rfl rfl (AO.p rfl (p_pickF rfl rfl) (AO.a rfl rfl (AO.nil ?_)))))
   exact ⟨false, (some_inj b0), S0, Sub.k1 rfl (Sub.nil _)⟩
 ·rintro t' b3 ⟨a1, rfl, b1, b2⟩
  refine AX.sub b2 (AX.ret ?_)
  obtain rfl := some_inj a6
  exact ⟨.inr rfl, _, res1 rfl (rv_tmp rfl), rfl, (flatB_ok rfl), b1.hold⟩
set_option maxHeartbeats 4000000 in
theorem W_spec_l03Mod (fu : Nat) (H : AHeap) (a0 : Int) (a1 : Int) (r0 : Int) (hd : D_spec_l03Mod fu a0 a1 = some r0) : ACall Tryz.prog 80 [.int .i64 a0, .int .i64 a1] H (.int .i64 r0) H := by
 refine ACall.bodyP (N := 12) [(0, .int .i64 a0), (1, .int .i64 a1)] Tryz.func80 rfl rfl rfl rfl ?_
 unfold D_spec_l03Mod at hd
 have S0 : St [] H H [] := St.nil H
 refine AX.sr (AO.a rfl rfl (AO.nil (AX.sr (AO.m rfl rfl (AO.m rfl rfl ?_)))))
 obtain ⟨a2, a3⟩ := chk_some hd
 refine AO.p rfl (p_remE rfl rfl a2) (AO.m rfl rfl ?_)
 obtain ⟨a4, a5⟩ := chk_some a3
 refine AO.p rfl (p_addE rfl rfl a4) (AO.m rfl rfl ?_)
 obtain ⟨a6, a7⟩ := chk_some a5
 refine AO.p rfl (p_remE rfl rfl a6) (AO.a rfl rfl (AO.nil (AX.ret ?_)))
 obtain rfl := some_inj a7
 exact ⟨.inr rfl, _, res1 rfl (rv_tmp rfl), rfl, (flatB_ok rfl), S0.hold⟩
set_option maxHeartbeats 4000000 in
theorem W_spec_l03Sums (fu : Nat) (H : AHeap) (a0 : Int) (p_a1 : Option Addr) (c_a1 : Nat) (T_a1 : Tb) (a1 : List (List Int)) (t_a1 : trows T_a1 = a1) (v_a1 : Vw H p_a1 a1.length c_a1 (tcells T_a1)) (w_a1 : TVw H T_a1) (r0 : List Int) (hd : D_spec_l03Sums fu a0 a1 = some r0) : ∃ v G', ACall Tryz.prog 33 [.int .i64 a0, .slice p_a1 a1.length c_a1] H v G' ∧ ∃ (p_r0 : Option Addr) (c_r0 : Nat), (v = .slice p_r0 r0.length c_r0) ∧ St [] H G' [oseg p_r0 (ints r0)] ∧ Sb p_r0 r0.length c_r0 1 := by
 refine ACall.bodyX (args := [.int .i64 a0, .slice p_a1 a1.length c_a1]) (N := 33) [(0, .int .i64 a0), (1, .slice p_a1 a1.length c_a1)] (fun v G' => ∃ (p_r0 : Option Addr) (c_r0 : Nat), (v = .slice p_r0 r0.length c_r0) ∧ St [] H G' [oseg p_r0 (ints r0)] ∧ Sb p_r0 r0.length c_r0 1) Tryz.func33 rfl rfl rfl rfl ?_
 unfold D_spec_l03Sums at hd
 have S0 : St [] H H [] := St.nil H
 refine AX.sr (AO.a rfl rfl (AO.nil (AX.sr ?_)))
 obtain ⟨g4, b8, c7, c8, c9⟩ := S0.new (AObj.row false (ints []))
 refine AO.c rfl (s_build0 (i := b8) underlying27 sizeOf2 c7 c8) (AO.a rfl rfl (AO.nil (AX.seq (AX.sr (AO.a rfl rfl (AO.nil ?_))))))
 obtain ⟨d0, d1, d2⟩ := bnd_some hd
 refine AX.cutS (fun t' H' => ∃ (a5 : List Int) (a6 : Option Addr) (a8 : Nat), a5 = d0 ∧ St [] H H' [oseg a6 (ints a5)] ∧ Sb a6 (a5.length) a8 1 ∧ Am.Sub [(5, .slice a6 a5.length a8)] t') ?_ ?_
 ·refine AX.block (AX.loopF (fun s' t' H' => ∃ (a3 : List Int) (a2 : Int) (a7 : Option Addr) (a9 : Nat), (a3, a2) = s' ∧ St [] H H' [oseg a7 (ints a3)] ∧ Sb a7 (a3.length) a9 1 ∧ Am.Sub [(0, .int .i64 a0), (1, .slice p_a1 a1.length c_a1), (5, .slice a7 a3.length a9), (6, .int .i64 a2)] t') d1 ?_ ?_)
  ·skip
   have d3 := c9.front 0 rfl
   exact ⟨[], 0, (some (Addr.mk b8 0 none)), 0, rfl, d3, (Sb.lit (n := 0) (by decide)), Sub.k4 rfl rfl rfl rfl (Sub.nil _)⟩
  ·rintro g5 _ t' g6 ⟨a3, a2, a7, a9, rfl, a4, b0, d4⟩ g7 b1 b9
   refine AX.sub d4 ?_
   unfold D_spec_l03Sums_s0 at b1
   refine AX.seq (AX.sr (AO.m rfl rfl (AO.m rfl rfl (AO.p rfl (p_len_slice rfl underlying24) (AO.p rfl (p_lss rfl rfl) (AO.nil (AX.cond rfl (fun b2 => ?_) (fun b2 => ?_))))))))
   ·have d5 := bif_t b2 b1
    refine AX.skip (AX.seq (AX.block (DR.startS [false, false, false, false, false, false, false, false, false, false, false, false, false, false, false, false, false, true, false] mix (by kernel_rfl) (fun hst => ?_))))
    refine DR.p rfl rfl (p_move rfl) (DR.p rfl rfl (p_move rfl) (DR.p rfl rfl (p_move rfl) ?_))
    obtain ⟨c0, d6⟩ := chk_some d5
    obtain ⟨d7, g8, b3, c1⟩ := tget t_a1 (lt_len rfl (inR_lt c0))
    refine DR.p rfl rfl (s_indexV (q := off p_a1 + a2.toNat) underlying24 sizeOf27 rfl ((a4.view v_a1).p c1) rfl c0 (o1 _ _)) (DR.r rfl rfl (r_load rfl isAgg27) (one_read ((a4.view v_a1).get _ _ c1) (TVw.at (a4.tview w_a1) b3).inn.bel) ?_)
    obtain ⟨b4, d8⟩ := chk_some d6
    refine DR.p rfl rfl (s_indexV (q := off d7 + 0) underlying27 sizeOf2 rfl ((TVw.at (a4.tview w_a1) b3).p (ints_get (lt_len rfl (inR_lt b4)))) rfl b4 (o1 _ _)) (DR.r rfl rfl (r_load rfl isAgg2) (one_read ((TVw.at (a4.tview w_a1) b3).get _ _ (ints_get (lt_len rfl (inR_lt b4)))) (.of_flat0 rfl)) (DR.p rfl rfl (p_move rfl) (DR.p rfl rfl (p_move rfl) ?_)))
    obtain ⟨c2, d9⟩ := chk_some d8
    obtain ⟨e0, g9, b5, c3⟩ := tget t_a1 (lt_len rfl (inR_lt c2))
    refine DR.p rfl rfl (s_indexV (q := off p_a1 + a2.toNat) underlying24 sizeOf27 rfl ((a4.view v_a1).p c3) rfl c2 (o1 _ _)) (DR.r rfl rfl (r_load rfl isAgg27) (one_read ((a4.view v_a1).get _ _ c3) (TVw.at (a4.tview w_a1) b5).inn.bel) ?_)
    obtain ⟨b6, e1⟩ := chk_some d9
    refine DR.p rfl rfl (s_indexV (q := off e0 + 1) underlying27 sizeOf2 rfl ((TVw.at (a4.tview w_a1) b5).p (ints_get (lt_len rfl (inR_lt b6)))) rfl b6 (o1 _ _)) (DR.r rfl rfl (r_load rfl isAgg2) (one_read ((TVw.at (a4.tview w_a1) b5).get _ _ (ints_get (lt_len rfl (inR_lt b6)))) (.of_flat0 rfl)) ?_)
    obtain ⟨e2, e3⟩ := chk_some e1
    refine DR.p rfl rfl (p_addE rfl rfl e2) (DR.p rfl rfl (p_move rfl) ?_)
    obtain ⟨e4, e5⟩ := chk_some e3
    refine DR.p rfl rfl (p_remE rfl rfl e4) ?_
    obtain ⟨h0, h1, e6, e7, b7⟩ := a4.new (AObj.row false (ints [(rd (rw_ a1 a2.toNat) 0 + (rd (rw_ a1 a2.toNat) 1)).tmod a0]))
    refine DR.a rfl rfl e6 e7 (a_buildInts (vs := [(0, .int .i64 ((rd (rw_ a1 a2.toNat) 0 + (rd (rw_ a1 a2.toNat) 1)).tmod a0))]) (xs := [(rd (rw_ a1 a2.toNat) 0 + (rd (rw_ a1 a2.toNat) 1)).tmod a0]) underlying27 sizeOf2 zeroValue2 rfl rfl (by decide) rfl rfl) ?_
    obtain ⟨e8, e9⟩ := chk_some e5
    obtain ⟨c4, c5, h2, c6, f0, f1⟩ := b7.app (k := 1) rfl b0 (ints [(rd (rw_ a1 a2.toNat) 0 + (rd (rw_ a1 a2.toNat) 1)).tmod a0]) 1 (ints_len1 rfl)
    have f2 := f0.cellsEq (k := 1) (us' := ints (a3 ++ [(rd (rw_ a1 a2.toNat) 0 + (rd (rw_ a1 a2.toNat) 1)).tmod a0])) (ints_app _ _) rfl
    have f3 : Sb c4 ((a3 ++ [(rd (rw_ a1 a2.toNat) 0 + (rd (rw_ a1 a2.toNat) 1)).tmod a0]).length) c5 1 := (show a3.length + 1 = (a3 ++ [(rd (rw_ a1 a2.toNat) 0 + (rd (rw_ a1 a2.toNat) 1)).tmod a0]).length from len_app (a := a3) (b := [(rd (rw_ a1 a2.toNat) 0 + (rd (rw_ a1 a2.toNat) 1)).tmod a0]) rfl rfl) ▸ f1
    have f4 := f2.drop 0 rfl
    refine DR.w rfl rfl (s_app (by_ := 8) (us := ints a3) (vs := ints [(rd (rw_ a1 a2.toNat) 0 + (rd (rw_ a1 a2.toNat) 1)).tmod a0]) underlying27 underlying27 typeInfo2 sizeOf2 zeroValue2 rfl rfl rfl rfl rfl rfl rfl (b7.buf (k := 1) rfl b0 (ints_len1 rfl)) (b7.oview (k := 0) rfl (Sb.lit (n := 1) (by decide)) (ints_len1 rfl)) (ints_len1 rfl) ints_one e8 c6 (show a3.length + 1 = (a3 ++ [(rd (rw_ a1 a2.toNat) 0 + (rd (rw_ a1 a2.toNat) 1)).tmod a0]).length from len_app (a := a3) (b := [(rd (rw_ a1 a2.toNat) 0 + (rd (rw_ a1 a2.toNat) 1)).tmod a0]) rfl rfl)) (appR_len c6) (DR.p rfl rfl (p_assign rfl) (DR.nil 19 [] hst (by kernel_rfl) trivial (AX.region (AO.m rfl rfl ?_))))
    obtain ⟨f5, f6⟩ := chk_some e9
    refine AO.p rfl (p_addE rfl rfl f5) (AO.a rfl rfl (AO.nil ?_))
    obtain rfl := some_inj f6
    have f7 := f4.front 0 rfl
    exact ⟨((a3 ++ [(rd (rw_ a1 a2.toNat) 0 + (rd (rw_ a1 a2.toNat) 1)).tmod a0]), a2 + 1), b9, (a3 ++ [(rd (rw_ a1 a2.toNat) 0 + (rd (rw_ a1 a2.toNat) 1)).tmod a0]), (a2 + 1), c4, c5, rfl, f7, f3, Sub.k4 rfl rfl rfl rfl (Sub.nil _)⟩
   ·have f8 := bif_f b2 b1
    refine AX.exit ?_
    obtain rfl := some_inj f8
    have f9 := a4.front 0 rfl
    exact ⟨a3, a7, a9, b9, f9, b0, Sub.k1 rfl (Sub.nil _)⟩
 ·rintro t' h3 ⟨a5, a6, a8, rfl, g0, g1, g2⟩
  refine ⟨_, g2, ?_⟩
  refine AX.sr (AO.m rfl rfl (AO.a rfl rfl (AO.nil (AX.ret ?_))))
  obtain rfl := some_inj d2
  have g3 := g0.front 0 rfl
  exact ⟨.inr rfl, _, res1 rfl (rv_tmp rfl), a6, a8, rfl, g3, g1⟩
set_option maxHeartbeats 4000000 in
theorem W_impl_sums (fu : Nat) (H : AHeap) (a0 : Int) (p_a1 : Option Addr) (c_a1 : Nat) (T_a1 : Tb) (a1 : List (List Int)) (t_a1 : trows T_a1 = a1) (v_a1 : Vw H p_a1 a1.length c_a1 (tcells T_a1)) (w_a1 : TVw H T_a1) (r0 : List Int) (hd : D_impl_sums fu a0 a1 = some r0) : ∃ v G', ACall Tryz.prog 30 [.int .i64 a0, .slice p_a1 a1.length c_a1] H v G' ∧ ∃ (p_r0 : Option Addr) (c_r0 : Nat), (v = .slice p_r0 r0.length c_r0) ∧ St [] H G' [oseg p_r0 (ints r0)] ∧ Sb p_r0 r0.length c_r0 1 := by
 refine ACall.bodyX (args := [.int .i64 a0, .slice p_a1 a1.length c_a1]) (N := 29) [(0, .int .i64 a0), (1, .slice p_a1 a1.length c_a1)] (fun v G' => ∃ (p_r0 : Option Addr) (c_r0 : Nat), (v = .slice p_r0 r0.length c_r0) ∧ St [] H G' [oseg p_r0 (ints r0)] ∧ Sb p_r0 r0.length c_r0 1) Tryz.func30 rfl rfl rfl rfl ?_
 unfold D_impl_sums at hd
 have S0 : St [] H H [] := St.nil H
 refine AX.sr (AO.a rfl rfl (AO.nil (AX.sr ?_)))
 obtain ⟨f9, b7, c5, c6, c7⟩ := S0.new (AObj.row false (ints []))
 refine AO.c rfl (s_build0 (i := b7) underlying27 sizeOf2 c5 c6) (AO.a rfl rfl (AO.nil (AX.seq (AX.sr (AO.m rfl rfl (AO.p rfl (p_len_slice rfl underlying24) (AO.m rfl rfl (AO.nil ?_))))))))
 obtain ⟨c8, c9, d0⟩ := bnd_some hd
 refine AX.cutS (fun t' H' => ∃ (a5 : List Int) (a6 : Option Addr) (a8 : Nat), a5 = c8 ∧ St [] H H' [oseg a6 (ints a5)] ∧ Sb a6 (a5.length) a8 1 ∧ Am.Sub [(5, .slice a6 a5.length a8)] t') ?_ ?_
 ·refine AX.block (AX.loopF (fun s' t' H' => ∃ (a3 : List Int) (a2 : Int) (a7 : Option Addr) (a9 : Nat), (a3, a2) = s' ∧ St [] H H' [oseg a7 (ints a3)] ∧ Sb a7 (a3.length) a9 1 ∧ Am.Sub [(0, .int .i64 a0), (5, .slice a7 a3.length a9), (9, .slice p_a1 a1.length c_a1), (10, .int .i64 ((a1.length : Nat) : Int)), (11, .int .i64 a2)] t') c9 ?_ ?_)
  ·skip
   have d1 := c7.front 0 rfl
   exact ⟨[], 0, (some (Addr.mk b7 0 none)), 0, rfl, d1, (Sb.lit (n := 0) (by decide)), Sub.k4 rfl rfl rfl rfl (Sub.k1 rfl (Sub.nil _))⟩
  ·rintro g0 _ t' g1 ⟨a3, a2, a7, a9, rfl, a4, b1, d2⟩ g2 b2 b8
   refine AX.sub d2 ?_
   unfold D_impl_sums_s0 at b2
   refine AX.sr (AO.p rfl (p_lss rfl rfl) (AO.nil (AX.seq (AX.cond rfl (fun b3 => ?_) (fun b3 => ?_)))))
   ·have d3 := bif_t b3 b2
    refine AX.skip (AX.seq (AX.block (AX.sr ?_)))
    obtain ⟨b9, d4⟩ := chk_some d3
    obtain ⟨c0, g3, b0, c1⟩ := tget t_a1 (lt_len rfl (inR_lt b9))
    refine AO.p rfl (s_indexV (q := off p_a1 + a2.toNat) underlying24 sizeOf27 rfl ((a4.view v_a1).p c1) rfl b9 (o1 _ _)) (AO.c rfl (s_load isAgg27 rfl ((a4.view v_a1).get _ _ c1)) (AO.a rfl rfl (AO.nil (DR.startS [false, false, false, false, false, false, false, false, false, false, false, true, false] mix (by kernel_rfl) (fun hst => ?_)))))
    refine DR.p rfl rfl (p_move rfl) (DR.p rfl rfl (p_move rfl) ?_)
    obtain ⟨b4, d5⟩ := chk_some d4
    refine DR.p rfl rfl (s_indexV (q := off c0 + 0) underlying27 sizeOf2 rfl ((TVw.at (a4.tview w_a1) b0).p (ints_get (lt_len rfl (inR_lt b4)))) rfl b4 (o1 _ _)) (DR.r rfl rfl (r_load rfl isAgg2) (one_read ((TVw.at (a4.tview w_a1) b0).get _ _ (ints_get (lt_len rfl (inR_lt b4)))) (.of_flat0 rfl)) (DR.p rfl rfl (p_move rfl) ?_))
    obtain ⟨b5, d6⟩ := chk_some d5
    refine DR.p rfl rfl (s_indexV (q := off c0 + 1) underlying27 sizeOf2 rfl ((TVw.at (a4.tview w_a1) b0).p (ints_get (lt_len rfl (inR_lt b5)))) rfl b5 (o1 _ _)) (DR.r rfl rfl (r_load rfl isAgg2) (one_read ((TVw.at (a4.tview w_a1) b0).get _ _ (ints_get (lt_len rfl (inR_lt b5)))) (.of_flat0 rfl)) ?_)
    obtain ⟨d7, d8⟩ := chk_some d6
    refine DR.p rfl rfl (p_addE rfl rfl d7) (DR.p rfl rfl (p_move rfl) ?_)
    obtain ⟨d9, e0⟩ := chk_some d8
    refine DR.p rfl rfl (p_remE rfl rfl d9) ?_
    obtain ⟨g4, g5, e1, e2, b6⟩ := a4.new (AObj.row false (ints [(rd (rw_ a1 a2.toNat) 0 + (rd (rw_ a1 a2.toNat) 1)).tmod a0]))
    refine DR.a rfl rfl e1 e2 (a_buildInts (vs := [(0, .int .i64 ((rd (rw_ a1 a2.toNat) 0 + (rd (rw_ a1 a2.toNat) 1)).tmod a0))]) (xs := [(rd (rw_ a1 a2.toNat) 0 + (rd (rw_ a1 a2.toNat) 1)).tmod a0]) underlying27 sizeOf2 zeroValue2 rfl rfl (by decide) rfl rfl) ?_
    obtain ⟨e3, e4⟩ := chk_some e0
    obtain ⟨c2, c3, g6, c4, e5, e6⟩ := b6.app (k := 1) rfl b1 (ints [(rd (rw_ a1 a2.toNat) 0 + (rd (rw_ a1 a2.toNat) 1)).tmod a0]) 1 (ints_len1 rfl)
    have e7 := e5.cellsEq (k := 1) (us' := ints (a3 ++ [(rd (rw_ a1 a2.toNat) 0 + (rd (rw_ a1 a2.toNat) 1)).tmod a0])) (ints_app _ _) rfl
    have e8 : Sb c2 ((a3 ++ [(rd (rw_ a1 a2.toNat) 0 + (rd (rw_ a1 a2.toNat) 1)).tmod a0]).length) c3 1 := (show a3.length + 1 = (a3 ++ [(rd (rw_ a1 a2.toNat) 0 + (rd (rw_ a1 a2.toNat) 1)).tmod a0]).length from len_app (a := a3) (b := [(rd (rw_ a1 a2.toNat) 0 + (rd (rw_ a1 a2.toNat) 1)).tmod a0]) rfl rfl) ▸ e6
    have e9 := e7.drop 0 rfl
    refine DR.w rfl rfl (s_app (by_ := 8) (us := ints a3) (vs := ints [(rd (rw_ a1 a2.toNat) 0 + (rd (rw_ a1 a2.toNat) 1)).tmod a0]) underlying27 underlying27 typeInfo2 sizeOf2 zeroValue2 rfl rfl rfl rfl rfl rfl rfl (b6.buf (k := 1) rfl b1 (ints_len1 rfl)) (b6.oview (k := 0) rfl (Sb.lit (n := 1) (by decide)) (ints_len1 rfl)) (ints_len1 rfl) ints_one e3 c4 (show a3.length + 1 = (a3 ++ [(rd (rw_ a1 a2.toNat) 0 + (rd (rw_ a1 a2.toNat) 1)).tmod a0]).length from len_app (a := a3) (b := [(rd (rw_ a1 a2.toNat) 0 + (rd (rw_ a1 a2.toNat) 1)).tmod a0]) rfl rfl)) (appR_len c4) (DR.p rfl rfl (p_assign rfl) (DR.nil 13 [] hst (by kernel_rfl) trivial (AX.region ?_)))
    obtain ⟨f0, f1⟩ := chk_some e4
    refine AO.p rfl (p_addE rfl rfl f0) (AO.m rfl rfl (AO.nil ?_))
    obtain rfl := some_inj f1
    have f2 := e9.front 0 rfl
    exact ⟨((a3 ++ [(rd (rw_ a1 a2.toNat) 0 + (rd (rw_ a1 a2.toNat) 1)).tmod a0]), a2 + 1), b8, (a3 ++ [(rd (rw_ a1 a2.toNat) 0 + (rd (rw_ a1 a2.toNat) 1)).tmod a0]), (a2 + 1), c2, c3, rfl, f2, e8, Sub.k4 rfl rfl rfl rfl (Sub.k1 rfl (Sub.nil _))⟩
   ·have f3 := bif_f b3 b2
    refine AX.exit ?_
    obtain rfl := some_inj f3
    have f4 := a4.front 0 rfl
    exact ⟨a3, a7, a9, b8, f4, b1, Sub.k1 rfl (Sub.nil _)⟩
 ·rintro t' g7 ⟨a5, a6, a8, rfl, f5, f6, f7⟩
  refine ⟨_, f7, ?_⟩
  refine AX.sr (AO.m rfl rfl (AO.a rfl rfl (AO.nil (AX.ret ?_))))
  obtain rfl := some_inj d0
  have f8 := f5.front 0 rfl
  exact ⟨.inr rfl, _, res1 rfl (rv_tmp rfl), a6, a8, rfl, f8, f6⟩
set_option maxHeartbeats 4000000 in
theorem W_spec_l01Own (fu : Nat) (H : AHeap) (p_a0 : Option Addr) (c_a0 : Nat) (a0 : List Int) (v_a0 : Vw H p_a0 a0.length c_a0 (ints a0)) (r0 : List Int) (hd : D_spec_l01Own fu a0 = some r0) : ∃ v G', ACall Tryz.prog 54 [.slice p_a0 a0.length c_a0] H v G' ∧ ∃ (p_r0 : Option Addr) (c_r0 : Nat), (v = .slice p_r0 r0.length c_r0) ∧ St [] H G' [oseg p_r0 (ints r0)] ∧ Sb p_r0 r0.length c_r0 1 := by
 refine ACall.bodyX (args := [.slice p_a0 a0.length c_a0]) (N := 6) [(0, .slice p_a0 a0.length c_a0)] (fun v G' => ∃ (p_r0 : Option Addr) (c_r0 : Nat), (v = .slice p_r0 r0.length c_r0) ∧ St [] H G' [oseg p_r0 (ints r0)] ∧ Sb p_r0 r0.length c_r0 1) Tryz.func54 rfl rfl rfl rfl ?_
 unfold D_spec_l01Own at hd
 have S0 : St [] H H [] := St.nil H
 refine AX.sr (AO.a rfl rfl (AO.nil (AX.sr ?_)))
 obtain ⟨b5, a4, a5, a6, a1⟩ := S0.new (AObj.row false (ints []))
 refine AO.c rfl (s_build0 (i := a4) underlying27 sizeOf2 a5 a6) (AO.m rfl rfl ?_)
 obtain ⟨a7, a8⟩ := chk_some hd
 obtain ⟨a2, a3, b6, a9, b0, b1⟩ := a1.app (k := 0) rfl (Sb.lit (n := 0) (by decide)) (ints a0) a0.length (ints_len1 rfl)
 have b2 := b0.cellsEq (k := 0) (us' := ints a0) (List.nil_append _) rfl
 have b3 : Sb a2 (a0.length) a3 1 := (show 0 + a0.length = a0.length from len_nilapp (b := a0) rfl) ▸ b1
 refine AO.c rfl (s_app (by_ := 8) (us := ints []) (vs := ints a0) underlying27 underlying27 typeInfo2 sizeOf2 zeroValue2 rfl rfl rfl rfl rfl rfl rfl (a1.buf (k := 0) rfl (Sb.lit (n := 0) (by decide)) (ints_len1 rfl)) (a1.view v_a0) (ints_len1 rfl) ints_one a7 a9 (show 0 + a0.length = a0.length from len_nilapp (b := a0) rfl)) (AO.a rfl rfl (AO.nil (AX.ret ?_)))
 obtain rfl := some_inj a8
 have b4 := b2.front 0 rfl
 exact ⟨.inr rfl, _, res1 rfl (rv_tmp rfl), a2, a3, rfl, b4, b3⟩
set_option maxHeartbeats 4000000 in
theorem W_impl_always (fu : Nat) (H : AHeap)  (r0 : Bool) (hd : D_impl_always fu = some r0) : ACall Tryz.prog 28 [] H (.bool r0) H := by
 refine ACall.bodyP (N := 1) [] Tryz.func28 rfl rfl rfl rfl ?_
 unfold D_impl_always at hd
 have S0 : St [] H H [] := St.nil H
 refine AX.sr (AO.a rfl rfl (AO.nil (AX.sr (AO.a rfl rfl (AO.nil (AX.ret ?_))))))
 obtain rfl := some_inj hd
 exact ⟨.inr rfl, _, res1 rfl (rv_tmp rfl), rfl, (flatB_ok rfl), S0.hold⟩
set_option maxHeartbeats 4000000 in
theorem W_laws_likeInts (fu : Nat) (H : AHeap) (p_a0 : Option Addr) (c_a0 : Nat) (a0 : List Int) (v_a0 : Vw H p_a0 a0.length c_a0 (ints a0)) (p_a1 : Option Addr) (c_a1 : Nat) (a1 : List Int) (v_a1 : Vw H p_a1 a1.length c_a1 (ints a1)) (r0 : Bool) (hd : D_laws_likeInts fu a0 a1 = some r0) : ACall Tryz.prog 10 [.slice p_a0 a0.length c_a0, .slice p_a1 a1.length c_a1] H (.bool r0) H := by
 refine ACall.bodyP (N := 26) [(0, .slice p_a0 a0.length c_a0), (1, .slice p_a1 a1.length c_a1)] Tryz.func10 rfl rfl rfl rfl ?_
 unfold D_laws_likeInts at hd
 have S0 : St [] H H [] := St.nil H
 refine AX.sr (AO.a rfl rfl (AO.nil (AX.seq (AX.sr (AO.m rfl rfl (AO.p rfl (p_len_slice rfl underlying27) (AO.m rfl rfl (AO.p rfl (p_len_slice rfl underlying27) (AO.p rfl (p_neq rfl rfl) (AO.nil (AX.cond rfl (fun a4 => ?_) (fun a4 => ?_))))))))))))
 ·have b4 := bif_t a4 hd
  refine AX.sr (AO.a rfl rfl (AO.nil (AX.ret ?_)))
  obtain rfl := some_inj b4
  exact ⟨.inr rfl, _, res1 rfl (rv_tmp rfl), rfl, (flatB_ok rfl), S0.hold⟩
 ·have b5 := bif_f a4 hd
  refine AX.skip (AX.seq (AX.sr (AO.a rfl rfl (AO.nil ?_))))
  obtain ⟨b1, b6, b2⟩ := bnd_some b5
  refine AX.cutS (fun t' H' => .inl () = b1 ∧ St [] H H' [] ∧ Am.Sub [] t') ?_ ?_
  ·refine AX.block (AX.loopF (fun s' t' H' => ∃ (a2 : Int), a2 = s' ∧ St [] H H' [] ∧ Am.Sub [(0, .slice p_a0 a0.length c_a0), (1, .slice p_a1 a1.length c_a1), (5, .int .i64 a2)] t') b6 ?_ ?_)
   ·skip
    exact ⟨0, rfl, S0, Sub.k2 rfl rfl (Sub.k1 rfl (Sub.nil _))⟩
   ·rintro c8 _ t' c9 ⟨a2, rfl, a3, b7⟩ d0 a5 a6
    refine AX.sub b7 ?_
    unfold D_laws_likeInts_s0 at a5
    refine AX.seq (AX.sr (AO.m rfl rfl (AO.m rfl rfl (AO.p rfl (p_len_slice rfl underlying27) (AO.p rfl (p_lss rfl rfl) (AO.nil (AX.cond rfl (fun a7 => ?_) (fun a7 => ?_))))))))
    ·have b8 := bif_t a7 a5
     refine AX.skip (AX.seq (AX.block (AX.seq (DR.startS [false, false, false, false, false, false, false, false, false] mix (by kernel_rfl) (fun hst => ?_)))))
     refine DR.p rfl rfl (p_move rfl) (DR.p rfl rfl (p_move rfl) ?_)
     obtain ⟨a8, b9⟩ := chk_some b8
     refine DR.p rfl rfl (s_indexV (q := off p_a0 + a2.toNat) underlying27 sizeOf2 rfl ((a3.view v_a0).p (ints_get (lt_len rfl (inR_lt a8)))) rfl a8 (o1 _ _)) (DR.r rfl rfl (r_load rfl isAgg2) (one_read ((a3.view v_a0).get _ _ (ints_get (lt_len rfl (inR_lt a8)))) (.of_flat0 rfl)) (DR.p rfl rfl (p_move rfl) (DR.p rfl rfl (p_move rfl) ?_)))
     obtain ⟨a9, b3⟩ := chk_some b9
     refine DR.p rfl rfl (s_indexV (q := off p_a1 + a2.toNat) underlying27 sizeOf2 rfl ((a3.view v_a1).p (ints_get (lt_len rfl (inR_lt a9)))) rfl a9 (o1 _ _)) (DR.r rfl rfl (r_load rfl isAgg2) (one_read ((a3.view v_a1).get _ _ (ints_get (lt_len rfl (inR_lt a9)))) (.of_flat0 rfl)) (DR.p rfl rfl (p_neq rfl rfl) (DR.nil 9 [] hst (by kernel_rfl) trivial (AX.cond rfl (fun b0 => ?_) (fun b0 => ?_)))))
     ·have c0 := bif_t b0 b3
      refine AX.sr (AO.a rfl rfl (AO.nil (AX.ret ?_)))
      obtain rfl := some_inj c0
      have c1 : _ = b1 := a6
      subst c1
      obtain rfl := some_inj b2
      exact ⟨.inr rfl, _, res1 rfl (rv_tmp rfl), rfl, (flatB_ok rfl), a3.hold⟩
     ·have c2 := bif_f b0 b3
      refine AX.skip (AX.region (AO.m rfl rfl ?_))
      obtain ⟨c3, c4⟩ := chk_some c2
      refine AO.p rfl (p_addE rfl rfl c3) (AO.a rfl rfl (AO.nil ?_))
      obtain rfl := some_inj c4
      exact ⟨a2 + 1, a6, (a2 + 1), rfl, a3, Sub.k2 rfl rfl (Sub.k1 rfl (Sub.nil _))⟩
    ·have c5 := bif_f a7 a5
     refine AX.exit ?_
     obtain rfl := some_inj c5
     exact ⟨a6, a3, Sub.nil _⟩
  ·rintro t' d1 ⟨rfl, c6, c7⟩
   refine ⟨_, c7, ?_⟩
   refine AX.sr (AO.a rfl rfl (AO.nil (AX.ret ?_)))
   obtain rfl := some_inj b2
   exact ⟨.inr rfl, _, res1 rfl (rv_tmp rfl), rfl, (flatB_ok rfl), c6.hold⟩
set_option maxHeartbeats 4000000 in
theorem W_laws_rows5 (fu : Nat) (H : AHeap) (p_a0 : Option Addr) (c_a0 : Nat) (T_a0 : Tb) (a0 : List (List Int)) (t_a0 : trows T_a0 = a0) (v_a0 : Vw H p_a0 a0.length c_a0 (tcells T_a0)) (w_a0 : TVw H T_a0) (p_a1 : Option Addr) (c_a1 : Nat) (T_a1 : Tb) (a1 : List (List Int)) (t_a1 : trows T_a1 = a1) (v_a1 : Vw H p_a1 a1.length c_a1 (tcells T_a1)) (w_a1 : TVw H T_a1) (r0 : Bool) (hd : D_laws_rows5 fu a0 a1 = some r0) : ACall Tryz.prog 17 [.slice p_a0 a0.length c_a0, .slice p_a1 a1.length c_a1] H (.bool r0) H := by
 refine ACall.bodyP (N := 27) [(0, .slice p_a0 a0.length c_a0), (1, .slice p_a1 a1.length c_a1)] Tryz.func17 rfl rfl rfl rfl ?_
 unfold D_laws_rows5 at hd
 have S0 : St [] H H [] := St.nil H
 refine AX.sr (AO.a rfl rfl (AO.nil (AX.seq (AX.sr (AO.m rfl rfl (AO.p rfl (p_len_slice rfl underlying24) (AO.m rfl rfl (AO.p rfl (p_len_slice rfl underlying24) (AO.p rfl (p_neq rfl rfl) (AO.nil (AX.cond rfl (fun a4 => ?_) (fun a4 => ?_))))))))))))
 ·have c2 := bif_t a4 hd
  refine AX.sr (AO.a rfl rfl (AO.nil (AX.ret ?_)))
  obtain rfl := some_inj c2
  exact ⟨.inr rfl, _, res1 rfl (rv_tmp rfl), rfl, (flatB_ok rfl), S0.hold⟩
 ·have c3 := bif_f a4 hd
  refine AX.skip (AX.seq (AX.sr (AO.a rfl rfl (AO.nil ?_))))
  obtain ⟨a9, c4, b0⟩ := bnd_some c3
  refine AX.cutS (fun t' H' => .inl () = a9 ∧ St [] H H' [] ∧ Am.Sub [] t') ?_ ?_
  ·refine AX.block (AX.loopF (fun s' t' H' => ∃ (a2 : Int), a2 = s' ∧ St [] H H' [] ∧ Am.Sub [(0, .slice p_a0 a0.length c_a0), (1, .slice p_a1 a1.length c_a1), (5, .int .i64 a2)] t') c4 ?_ ?_)
   ·skip
    exact ⟨0, rfl, S0, Sub.k2 rfl rfl (Sub.k1 rfl (Sub.nil _))⟩
   ·rintro e0 _ t' c5 ⟨a2, rfl, a3, c6⟩ e1 a5 a6
    refine AX.sub c6 ?_
    unfold D_laws_rows5_s0 at a5
    refine AX.seq (AX.sr (AO.m rfl rfl (AO.m rfl rfl (AO.p rfl (p_len_slice rfl underlying24) (AO.p rfl (p_lss rfl rfl) (AO.nil (AX.cond rfl (fun a7 => ?_) (fun a7 => ?_))))))))
    ·have c7 := bif_t a7 a5
     refine AX.skip (AX.seq (AX.block (AX.seq (DR.startS [false, false, false, false, false, false, false, false, true, false] mix (by kernel_rfl) (fun hst => ?_)))))
     refine DR.p rfl rfl (p_move rfl) (DR.p rfl rfl (p_move rfl) ?_)
     obtain ⟨b1, c8⟩ := chk_some c7
     obtain ⟨b2, b3, b4, b5⟩ := tget t_a0 (lt_len rfl (inR_lt b1))
     refine DR.p rfl rfl (s_indexV (q := off p_a0 + a2.toNat) underlying24 sizeOf27 rfl ((a3.view v_a0).p b5) rfl b1 (o1 _ _)) (DR.r rfl rfl (r_load rfl isAgg27) (one_read ((a3.view v_a0).get _ _ b5) (TVw.at (a3.tview w_a0) b4).inn.bel) (DR.p rfl rfl (p_move rfl) (DR.p rfl rfl (p_move rfl) ?_)))
     obtain ⟨b6, c9⟩ := chk_some c8
     obtain ⟨b7, b8, b9, c0⟩ := tget t_a1 (lt_len rfl (inR_lt b6))
     refine DR.p rfl rfl (s_indexV (q := off p_a1 + a2.toNat) underlying24 sizeOf27 rfl ((a3.view v_a1).p c0) rfl b6 (o1 _ _)) (DR.r rfl rfl (r_load rfl isAgg27) (one_read ((a3.view v_a1).get _ _ c0) (TVw.at (a3.tview w_a1) b9).inn.bel) ?_)
     obtain ⟨d0, d1, c1⟩ := bnd_some c9
     refine DR.w rfl rfl (o_call (vs := [.slice b2 ((rw_ a0 a2.toNat).length) b3, .slice b7 ((rw_ a1 a2.toNat).length) b8]) rfl Tryz.call10 (W_laws_likeInts fu c5 b2 b3 (rw_ a0 a2.toNat) (TVw.at (a3.tview w_a0) b4) b7 b8 (rw_ a1 a2.toNat) (TVw.at (a3.tview w_a1) b9) d0 d1)) (Nat.le_refl _) (DR.p rfl rfl (p_not rfl) (DR.nil 10 [] hst (by kernel_rfl) trivial (AX.cond rfl (fun a8 => ?_) (fun a8 => ?_))))
     ·have d2 := bif_t a8 c1
      refine AX.sr (AO.a rfl rfl (AO.nil (AX.ret ?_)))
      obtain rfl := some_inj d2
      have d3 : _ = a9 := a6
      subst d3
      obtain rfl := some_inj b0
      exact ⟨.inr rfl, _, res1 rfl (rv_tmp rfl), rfl, (flatB_ok rfl), a3.hold⟩
     ·have d4 := bif_f a8 c1
      refine AX.skip (AX.region (AO.m rfl rfl ?_))
      obtain ⟨d5, d6⟩ := chk_some d4
      refine AO.p rfl (p_addE rfl rfl d5) (AO.a rfl rfl (AO.nil ?_))
      obtain rfl := some_inj d6
      exact ⟨a2 + 1, a6, (a2 + 1), rfl, a3, Sub.k2 rfl rfl (Sub.k1 rfl (Sub.nil _))⟩
    ·have d7 := bif_f a7 a5
     refine AX.exit ?_
     obtain rfl := some_inj d7
     exact ⟨a6, a3, Sub.nil _⟩
  ·rintro t' e2 ⟨rfl, d8, d9⟩
   refine ⟨_, d9, ?_⟩
   refine AX.sr (AO.a rfl rfl (AO.nil (AX.ret ?_)))
   obtain rfl := some_inj b0
   exact ⟨.inr rfl, _, res1 rfl (rv_tmp rfl), rfl, (flatB_ok rfl), d8.hold⟩
set_option maxHeartbeats 4000000 in
theorem W_spec_l03Own (fu : Nat) (H : AHeap) (p_a0 : Option Addr) (c_a0 : Nat) (T_a0 : Tb) (a0 : List (List Int)) (t_a0 : trows T_a0 = a0) (v_a0 : Vw H p_a0 a0.length c_a0 (tcells T_a0)) (w_a0 : TVw H T_a0) (r0 : List (List Int)) (hd : D_spec_l03Own fu a0 = some r0) : ∃ v G', ACall Tryz.prog 58 [.slice p_a0 a0.length c_a0] H v G' ∧ ∃ (p_r0 : Option Addr) (c_r0 : Nat) (T_r0 : Tb), (v = .slice p_r0 r0.length c_r0) ∧ St [] H G' [oseg p_r0 (tcells T_r0), tseg T_r0] ∧ Sb p_r0 r0.length c_r0 1 ∧ trows T_r0 = r0 ∧ TSb T_r0 := by
 refine ACall.bodyX (args := [.slice p_a0 a0.length c_a0]) (N := 21) [(0, .slice p_a0 a0.length c_a0)] (fun v G' => ∃ (p_r0 : Option Addr) (c_r0 : Nat) (T_r0 : Tb), (v = .slice p_r0 r0.length c_r0) ∧ St [] H G' [oseg p_r0 (tcells T_r0), tseg T_r0] ∧ Sb p_r0 r0.length c_r0 1 ∧ trows T_r0 = r0 ∧ TSb T_r0) Tryz.func58 rfl rfl rfl rfl ?_
 unfold D_spec_l03Own at hd
 have S0 : St [] H H [] := St.nil H
 refine AX.sr (AO.a rfl rfl (AO.nil (AX.sr ?_)))
 obtain ⟨h5, b9, c8, c9, d0⟩ := S0.new (AObj.row false (tcells []))
 have S102t := d0.nilseg 1
 refine AO.c rfl (s_build0 (i := b9) underlying24 sizeOf27 c8 c9) (AO.a rfl rfl (AO.nil (AX.seq (AX.sr (AO.a rfl rfl (AO.nil ?_))))))
 obtain ⟨d1, d2, d3⟩ := bnd_some hd
 refine AX.cutS (fun t' H' => ∃ (a8 : List (List Int)) (a9 : Option Addr) (b2 : Nat) (a7 : Tb), a8 = d1 ∧ St [] H H' [oseg a9 (tcells a7), tseg a7] ∧ trows a7 = a8 ∧ TSb a7 ∧ Sb a9 (a8.length) b2 1 ∧ Am.Sub [(3, .slice a9 a8.length b2)] t') ?_ ?_
 ·refine AX.block (AX.loopF (fun s' t' H' => ∃ (a2 : List (List Int)) (a4 : Int) (b0 : Option Addr) (b3 : Nat) (a3 : Tb), (a2, a4) = s' ∧ St [] H H' [oseg b0 (tcells a3), tseg a3] ∧ trows a3 = a2 ∧ TSb a3 ∧ Sb b0 (a2.length) b3 1 ∧ Am.Sub [(0, .slice p_a0 a0.length c_a0), (3, .slice b0 a2.length b3), (4, .int .i64 a4)] t') d2 ?_ ?_)
  ·skip
   have d4 := S102t.front 1 rfl
   have d5 := d4.front 1 rfl
   exact ⟨[], 0, (some (Addr.mk b9 0 none)), 0, [], rfl, d5, rfl, TSb.nil, (Sb.lit (n := 0) (by decide)), Sub.k2 rfl rfl (Sub.k1 rfl (Sub.nil _))⟩
  ·rintro h6 _ t' d6 ⟨a2, a4, b0, b3, a3, rfl, b1, b4, c0, b5, d7⟩ h7 b6 c1
   refine AX.sub d7 ?_
   unfold D_spec_l03Own_s0 at b6
   refine AX.seq (AX.sr (AO.m rfl rfl (AO.m rfl rfl (AO.p rfl (p_len_slice rfl underlying24) (AO.p rfl (p_lss rfl rfl) (AO.nil (AX.cond rfl (fun b7 => ?_) (fun b7 => ?_))))))))
   ·have d8 := bif_t b7 b6
    refine AX.skip (AX.seq (AX.block (AX.region (AO.m rfl rfl (AO.m rfl rfl (AO.m rfl rfl ?_))))))
    obtain ⟨c2, d9⟩ := chk_some d8
    obtain ⟨c3, c4, e0, c5⟩ := tget t_a0 (lt_len rfl (inR_lt c2))
    refine AO.p rfl (s_indexV (q := off p_a0 + a4.toNat) underlying24 sizeOf27 rfl ((b1.view v_a0).p c5) rfl c2 (o1 _ _)) (AO.c rfl (s_load isAgg27 rfl ((b1.view v_a0).get _ _ c5)) ?_)
    obtain ⟨a1, e1, e2⟩ := bnd_some d9
    obtain ⟨_, h8, e3, a5, a6, rfl, e4, e5⟩ := W_spec_l01Own fu d6 c3 c4 (rw_ a0 a4.toNat) (TVw.at (b1.tview w_a0) e0) a1 e1
    have e6 := b1.call e4
    refine AO.c rfl (o_call (vs := [.slice c3 ((rw_ a0 a4.toNat).length) c4]) rfl Tryz.call54 e3) ?_
    obtain ⟨h9, e7, e8, e9, f0⟩ := e6.new (AObj.row false (tcells [(a5, a6, a1)]))
    have b8 := (f0.front 1 rfl).tone a5 a6 a1 rfl
    refine AO.c rfl (s_buildT1 (i := e7) (X := [(a5, a6, a1)]) (n := a1.length) rfl underlying24 sizeOf27 zeroValue27 rfl rfl e8 e9) ?_
    obtain ⟨f1, f2⟩ := chk_some e2
    obtain ⟨c6, c7, i0, f3, f4, f5⟩ := b8.app (k := 2) rfl b5 (tcells [(a5, a6, a1)]) 1 (tc_len1 rfl rfl)
    have f6 := f4.cellsEq (k := 2) (us' := tcells (a3 ++ [(a5, a6, a1)])) (tcells_app _ _).symm rfl
    have f7 : Sb c6 ((a2 ++ [a1]).length) c7 1 := (show a2.length + 1 = (a2 ++ [a1]).length from len_app (a := a2) (b := [a1]) rfl rfl) ▸ f5
    have f8 := f6.front 0 rfl
    have f9 := (f8.front 3 rfl).tmerge
    have g0 := f9.drop 1 rfl
    refine AO.c rfl (s_app (by_ := 24) (us := tcells a3) (vs := tcells [(a5, a6, a1)]) underlying24 underlying24 typeInfo27 sizeOf27 zeroValue27 rfl rfl rfl rfl rfl rfl rfl (b8.buf (k := 2) rfl b5 (tc_len1 b4 rfl)) (b8.oview (k := 1) rfl (Sb.lit (n := 1) (by decide)) (tc_len1 rfl rfl)) (tc_len1 rfl rfl) tcells_one f1 f3 (show a2.length + 1 = (a2 ++ [a1]).length from len_app (a := a2) (b := [a1]) rfl rfl)) (AO.a rfl rfl (AO.nil (AX.region (AO.m rfl rfl ?_))))
    obtain ⟨g1, g2⟩ := chk_some f2
    refine AO.p rfl (p_addE rfl rfl g1) (AO.a rfl rfl (AO.nil ?_))
    obtain rfl := some_inj g2
    have g3 := g0.front 0 rfl
    have g4 := g3.front 1 rfl
    exact ⟨((a2 ++ [a1]), a4 + 1), c1, (a2 ++ [a1]), (a4 + 1), c6, c7, (a3 ++ [(a5, a6, a1)]), rfl, g4, (trows_apps b4 rfl), (TSb.app c0 (TSb.one (sb_len rfl e5))), f7, Sub.k2 rfl rfl (Sub.k1 rfl (Sub.nil _))⟩
   ·have g5 := bif_f b7 b6
    refine AX.exit ?_
    obtain rfl := some_inj g5
    have g6 := b1.front 1 rfl
    have g7 := g6.front 1 rfl
    exact ⟨a2, b0, b3, a3, c1, g7, b4, c0, b5, Sub.k1 rfl (Sub.nil _)⟩
 ·rintro t' i1 ⟨a8, a9, b2, a7, rfl, g8, g9, h0, h1, h2⟩
  refine ⟨_, h2, ?_⟩
  refine AX.sr (AO.m rfl rfl (AO.a rfl rfl (AO.nil (AX.ret ?_))))
  obtain rfl := some_inj d3
  have h3 := g8.front 1 rfl
  have h4 := h3.front 1 rfl
  exact ⟨.inr rfl, _, res1 rfl (rv_tmp rfl), a9, b2, a7, rfl, h4, h1, g9, h0⟩
set_option maxHeartbeats 4000000 in
theorem W_spec_l03Patterned (fu : Nat) (H : AHeap) (a0 : Int) (r0 : List (List Int)) (hd : D_spec_l03Patterned fu a0 = some r0) : ∃ v G', ACall Tryz.prog 61 [.int .i64 a0] H v G' ∧ ∃ (p_r0 : Option Addr) (c_r0 : Nat) (T_r0 : Tb), (v = .slice p_r0 r0.length c_r0) ∧ St [] H G' [oseg p_r0 (tcells T_r0), tseg T_r0] ∧ Sb p_r0 r0.length c_r0 1 ∧ trows T_r0 = r0 ∧ TSb T_r0 := by
 refine ACall.bodyX (args := [.int .i64 a0]) (N := 22) [(0, .int .i64 a0)] (fun v G' => ∃ (p_r0 : Option Addr) (c_r0 : Nat) (T_r0 : Tb), (v = .slice p_r0 r0.length c_r0) ∧ St [] H G' [oseg p_r0 (tcells T_r0), tseg T_r0] ∧ Sb p_r0 r0.length c_r0 1 ∧ trows T_r0 = r0 ∧ TSb T_r0) Tryz.func61 rfl rfl rfl rfl ?_
 unfold D_spec_l03Patterned at hd
 have S0 : St [] H H [] := St.nil H
 refine AX.sr (AO.a rfl rfl (AO.nil (AX.sr ?_)))
 obtain ⟨g9, b5, c3, c4, c5⟩ := S0.new (AObj.row false (tcells []))
 have S102t := c5.nilseg 1
 refine AO.c rfl (s_build0 (i := b5) underlying24 sizeOf27 c3 c4) (AO.a rfl rfl (AO.nil (AX.seq (AX.sr (AO.a rfl rfl (AO.nil ?_))))))
 obtain ⟨c6, c7, c8⟩ := bnd_some hd
 refine AX.cutS (fun t' H' => ∃ (a6 : List (List Int)) (a7 : Option Addr) (a9 : Nat) (a5 : Tb), a6 = c6 ∧ St [] H H' [oseg a7 (tcells a5), tseg a5] ∧ trows a5 = a6 ∧ TSb a5 ∧ Sb a7 (a6.length) a9 1 ∧ Am.Sub [(3, .slice a7 a6.length a9)] t') ?_ ?_
 ·refine AX.block (AX.loopF (fun s' t' H' => ∃ (a2 : List (List Int)) (a1 : Int) (a8 : Option Addr) (b0 : Nat) (a3 : Tb), (a2, a1) = s' ∧ St [] H H' [oseg a8 (tcells a3), tseg a3] ∧ trows a3 = a2 ∧ TSb a3 ∧ Sb a8 (a2.length) b0 1 ∧ Am.Sub [(0, .int .i64 a0), (3, .slice a8 a2.length b0), (4, .int .i64 a1)] t') c7 ?_ ?_)
  ·skip
   have c9 := S102t.front 1 rfl
   have d0 := c9.front 1 rfl
   exact ⟨[], 1, (some (Addr.mk b5 0 none)), 0, [], rfl, d0, rfl, TSb.nil, (Sb.lit (n := 0) (by decide)), Sub.k2 rfl rfl (Sub.k1 rfl (Sub.nil _))⟩
  ·rintro h0 _ t' h1 ⟨a2, a1, a8, b0, a3, rfl, b6, b1, b7, b2, d1⟩ h2 b8 b9
   refine AX.sub d1 ?_
   unfold D_spec_l03Patterned_s0 at b8
   refine AX.seq (AX.sr (AO.m rfl rfl (AO.m rfl rfl ?_)))
   obtain ⟨d2, d3⟩ := chk_some b8
   refine AO.p rfl (p_subE rfl rfl d2) ?_
   obtain ⟨d4, c0⟩ := chk_some d3
   refine AO.p rfl (p_quoE rfl rfl d4) (AO.p rfl (p_leq rfl rfl) (AO.nil (AX.cond rfl (fun b3 => ?_) (fun b3 => ?_))))
   ·have d5 := bif_t b3 c0
    refine AX.skip (AX.seq (AX.block (AX.region (AO.m rfl rfl (AO.m rfl rfl (AO.m rfl rfl (AO.m rfl rfl ?_)))))))
    obtain ⟨d6, d7⟩ := chk_some d5
    refine AO.p rfl (p_subE rfl rfl d6) ?_
    obtain ⟨h3, a4, d8, d9, e0⟩ := b6.new (AObj.row false (ints [a1, a0 - a1]))
    refine AO.c rfl (s_buildInts (i := a4) (vs := [(0, .int .i64 a1), (1, .int .i64 (a0 - a1))]) (xs := [a1, a0 - a1]) underlying27 sizeOf2 zeroValue2 rfl rfl (by decide) rfl rfl d8 d9) ?_
    obtain ⟨h4, e1, e2, e3, e4⟩ := e0.new (AObj.row false (tcells ([((some (Addr.mk a4 0 none)), 2, [a1, a0 - a1])])))
    have b4 := (e4.front 1 rfl).tone (some (Addr.mk a4 0 none)) 2 [a1, a0 - a1] rfl
    refine AO.c rfl (s_buildT1 (i := e1) (X := [((some (Addr.mk a4 0 none)), 2, [a1, a0 - a1])]) (n := 2) rfl underlying24 sizeOf27 zeroValue27 rfl rfl e2 e3) ?_
    obtain ⟨e5, e6⟩ := chk_some d7
    obtain ⟨c1, c2, h5, e7, e8, e9⟩ := b4.app (k := 2) rfl b2 (tcells ([((some (Addr.mk a4 0 none)), 2, [a1, a0 - a1])])) 1 (tc_len1 rfl rfl)
    have f0 := e8.cellsEq (k := 2) (us' := tcells (a3 ++ [((some (Addr.mk a4 0 none)), 2, [a1, a0 - a1])])) (tcells_app _ _).symm rfl
    have f1 : Sb c1 ((a2 ++ [[a1, a0 - a1]]).length) c2 1 := (show a2.length + 1 = (a2 ++ [[a1, a0 - a1]]).length from len_app (a := a2) (b := [[a1, a0 - a1]]) rfl rfl) ▸ e9
    have f2 := f0.front 0 rfl
    have f3 := (f2.front 3 rfl).tmerge
    have f4 := f3.drop 1 rfl
    refine AO.c rfl (s_app (by_ := 24) (us := tcells a3) (vs := tcells ([((some (Addr.mk a4 0 none)), 2, [a1, a0 - a1])])) underlying24 underlying24 typeInfo27 sizeOf27 zeroValue27 rfl rfl rfl rfl rfl rfl rfl (b4.buf (k := 2) rfl b2 (tc_len1 b1 rfl)) (b4.oview (k := 1) rfl (Sb.lit (n := 1) (by decide)) (tc_len1 rfl rfl)) (tc_len1 rfl rfl) tcells_one e5 e7 (show a2.length + 1 = (a2 ++ [[a1, a0 - a1]]).length from len_app (a := a2) (b := [[a1, a0 - a1]]) rfl rfl)) (AO.a rfl rfl (AO.nil (AX.region (AO.m rfl rfl ?_))))
    obtain ⟨f5, f6⟩ := chk_some e6
    refine AO.p rfl (p_addE rfl rfl f5) (AO.a rfl rfl (AO.nil ?_))
    obtain rfl := some_inj f6
    have f7 := f4.front 0 rfl
    have f8 := f7.front 1 rfl
    exact ⟨((a2 ++ [[a1, a0 - a1]]), a1 + 1), b9, (a2 ++ [[a1, a0 - a1]]), (a1 + 1), c1, c2, (a3 ++ [((some (Addr.mk a4 0 none)), 2, [a1, a0 - a1])]), rfl, f8, (trows_apps b1 rfl), (TSb.app b7 (TSb.one (sb_len rfl (Sb.lit (n := 2) (by decide))))), f1, Sub.k2 rfl rfl (Sub.k1 rfl (Sub.nil _))⟩
   ·have f9 := bif_f b3 c0
    refine AX.exit ?_
    obtain rfl := some_inj f9
    have g0 := b6.front 1 rfl
    have g1 := g0.front 1 rfl
    exact ⟨a2, a8, b0, a3, b9, g1, b1, b7, b2, Sub.k1 rfl (Sub.nil _)⟩
 ·rintro t' h6 ⟨a6, a7, a9, a5, rfl, g2, g3, g4, g5, g6⟩
  refine ⟨_, g6, ?_⟩
  refine AX.sr (AO.m rfl rfl (AO.a rfl rfl (AO.nil (AX.ret ?_))))
  obtain rfl := some_inj c8
  have g7 := g2.front 1 rfl
  have g8 := g7.front 1 rfl
  exact ⟨.inr rfl, _, res1 rfl (rv_tmp rfl), a7, a9, a5, rfl, g8, g5, g3, g4⟩
set_option maxHeartbeats 4000000 in
theorem W_spec_l03Gcd (fu : Nat) (H : AHeap) (a0 : Int) (a1 : Int) (r0 : Int) (hd : D_spec_l03Gcd fu a0 a1 = some r0) : ACall Tryz.prog 82 [.int .i64 a0, .int .i64 a1] H (.int .i64 r0) H := by
 refine ACall.bodyP (N := 14) [(0, .int .i64 a0), (1, .int .i64 a1)] Tryz.func82 rfl rfl rfl rfl ?_
 unfold D_spec_l03Gcd at hd
 have S0 : St [] H H [] := St.nil H
 refine AX.sr (AO.a rfl rfl (AO.nil ?_))
 obtain ⟨a9, b0, b1⟩ := bnd_some hd
 refine AX.cut (fun t' H' => ∃ (a4 : Int), a4 = a9 ∧ St [] H H' [] ∧ Am.Sub [(0, .int .i64 a4)] t') ?_ ?_
 ·refine AX.block (AX.loopF (fun s' t' H' => ∃ (a3 : Int) (a2 : Int), (a3, a2) = s' ∧ St [] H H' [] ∧ Am.Sub [(0, .int .i64 a3), (1, .int .i64 a2)] t') b0 ?_ ?_)
  ·skip
   exact ⟨a0, a1, rfl, S0, Sub.k2 rfl rfl (Sub.nil _)⟩
  ·rintro b9 _ t' c0 ⟨a3, a2, rfl, a7, b2⟩ c1 a5 a8
   refine AX.sub b2 ?_
   unfold D_spec_l03Gcd_s0 at a5
   refine AX.seq (AX.sr (AO.m rfl rfl (AO.p rfl (p_neq rfl rfl) (AO.nil (AX.cond rfl (fun a6 => ?_) (fun a6 => ?_))))))
   ·have b3 := bif_t a6 a5
    refine AX.skip (AX.block (AX.sr (AO.m rfl rfl (AO.m rfl rfl ?_))))
    obtain ⟨b4, b5⟩ := chk_some b3
    refine AO.p rfl (p_remE rfl rfl b4) (AO.a rfl rfl (AO.nil (AX.sr (AO.m rfl rfl (AO.a rfl rfl (AO.nil (AX.region (AO.m rfl rfl (AO.a rfl rfl (AO.nil ?_))))))))))
    obtain rfl := some_inj b5
    exact ⟨(a2, a3.tmod a2), a8, a2, (a3.tmod a2), rfl, a7, Sub.k2 rfl rfl (Sub.nil _)⟩
   ·have b6 := bif_f a6 a5
    refine AX.exit ?_
    obtain rfl := some_inj b6
    exact ⟨a3, a8, a7, Sub.k1 rfl (Sub.nil _)⟩
 ·rintro t' c2 ⟨a4, rfl, b7, b8⟩
  refine AX.sub b8 (AX.sr (AO.m rfl rfl (AO.a rfl rfl (AO.nil (AX.ret ?_)))))
  obtain rfl := some_inj b1
  exact ⟨.inr rfl, _, res1 rfl (rv_tmp rfl), rfl, (flatB_ok rfl), b7.hold⟩
end Go.Proofs.YtdafmafigcljkaaGreat
