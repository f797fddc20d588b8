
/-
 The program computes that, printed by a program. No condition.
-/
import Derived.Test.YtdafmafigcljkaaGreatDMa
import Derived.Test.YtdafmafigcljkaaGreatWA
import Derived.Test.YtdafmafigcljkaaGreatCa
import Derived.Test.YtdafmafigcljkaaGreatProg
import Derived.KernelRfl
namespace Go.Proofs.YtdafmafigcljkaaGreat
open Go Go.RowKit Am Go.Proofs.Tryz
set_option linter.unusedVariables false
set_option linter.unusedSimpArgs false
set_option maxRecDepth 20000
set_option maxHeartbeats 4000000 in
theorem W_math_bits_Len64 (fu : Nat) (H : AHeap) (a0 : Int) (r0 : Int) (hd : D_math_bits_Len64 fu a0 = some r0) : ACall Tryz.prog 104 [.int .u64 a0] H (.int .i64 r0) H := by
 refine ACall.bodyP (N := 25) [(0, .int .u64 a0)] Tryz.func104 rfl rfl rfl rfl ?_
 unfold D_math_bits_Len64 at hd
 have S0 : St [] H H [] := St.nil H
 refine AX.sr (AO.a rfl rfl (AO.nil (AX.seq (AX.sr (AO.m rfl rfl (AO.p rfl (p_geq rfl rfl) (AO.nil (AX.cond rfl (fun a1 => ?_) (fun a1 => ?_)))))))))
 ·have a6 := bif_t a1 hd
  cases a6
 ·have a4 := bif_f a1 hd
  refine AX.skip (AX.seq (AX.sr (AO.m rfl rfl (AO.p rfl (p_geq rfl rfl) (AO.nil (AX.cond rfl (fun a2 => ?_) (fun a2 => ?_)))))))
  ·have a7 := bif_t a2 a4
   cases a7
  ·have a5 := bif_f a2 a4
   refine AX.skip (AX.seq (AX.sr (AO.m rfl rfl (AO.p rfl (p_geq rfl rfl) (AO.nil (AX.cond rfl (fun a3 => ?_) (fun a3 => ?_)))))))
   ·have a8 := bif_t a3 a5
    cases a8
   ·have a9 := bif_f a3 a5
    refine AX.skip (AX.sr (AO.m rfl rfl (AO.m rfl rfl (AO.p rfl (p_conv underlying85 underlying5 rfl rfl) ?_))))
    obtain ⟨b0, b1⟩ := chk_some a9
    refine AO.p rfl (p_indexS underlying9 rfl rfl b0) ?_
    obtain ⟨b2, b3⟩ := chk_some b1
    refine AO.p rfl (p_convI underlying5 underlying3 rfl b2) ?_
    obtain ⟨b4, b5⟩ := chk_some b3
    refine AO.p rfl (p_addE rfl rfl b4) (AO.a rfl rfl (AO.nil (AX.ret ?_)))
    obtain rfl := some_inj b5
    exact ⟨.inr rfl, _, res1 rfl (rv_tmp rfl), rfl, (flatB_ok rfl), S0.hold⟩
set_option maxHeartbeats 4000000 in
theorem W_math_bits_Len (fu : Nat) (H : AHeap) (a0 : Int) (r0 : Int) (hd : D_math_bits_Len fu a0 = some r0) : ACall Tryz.prog 88 [.int .u64 a0] H (.int .i64 r0) H := by
 refine ACall.bodyP (N := 8) [(0, .int .u64 a0)] Tryz.func88 rfl rfl rfl rfl ?_
 unfold D_math_bits_Len at hd
 have S0 : St [] H H [] := St.nil H
 refine AX.sr (AO.a rfl rfl (AO.nil (AX.seq (AX.cond rfl (fun h => nomatch h) (fun _ => ?_)))))
 refine AX.skip (AX.sr (AO.m rfl rfl ?_))
 obtain ⟨a1, a2, a3⟩ := bnd_some hd
 refine AO.c rfl (o_call (vs := [.int .u64 a0]) rfl Tryz.call104 (W_math_bits_Len64 fu H a0 a1 a2)) (AO.a rfl rfl (AO.nil (AX.ret ?_)))
 obtain rfl := some_inj a3
 exact ⟨.inr rfl, _, res1 rfl (rv_tmp rfl), rfl, (flatB_ok rfl), S0.hold⟩
set_option maxHeartbeats 4000000 in
theorem W_cmp_isNaN_int64 (fu : Nat) (H : AHeap) (a0 : Int) (r0 : Bool) (hd : D_cmp_isNaN_int64 fu a0 = some r0) : ACall Tryz.prog 105 [.int .i64 a0] H (.bool r0) H := by
 refine ACall.bodyP (N := 6) [(0, .int .i64 a0)] Tryz.func105 rfl rfl rfl rfl ?_
 unfold D_cmp_isNaN_int64 at hd
 have S0 : St [] H H [] := St.nil H
 refine AX.sr (AO.a rfl rfl (AO.nil (AX.sr (AO.m rfl rfl (AO.m rfl rfl (AO.p rfl (p_neq rfl rfl) (AO.a rfl rfl (AO.nil (AX.ret ?_)))))))))
 obtain rfl := some_inj hd
 exact ⟨.inr rfl, _, res1 rfl (rv_tmp rfl), rfl, (flatB_ok rfl), S0.hold⟩
set_option maxHeartbeats 4000000 in
theorem W_cmp_Compare_int64 (fu : Nat) (H : AHeap) (a0 : Int) (a1 : Int) (r0 : Int) (hd : D_cmp_Compare_int64 fu a0 a1 = some r0) : ACall Tryz.prog 89 [.int .i64 a0, .int .i64 a1] H (.int .i64 r0) H := by
 refine ACall.bodyP (N := 20) [(0, .int .i64 a0), (1, .int .i64 a1)] Tryz.func89 rfl rfl rfl rfl ?_
 unfold D_cmp_Compare_int64 at hd
 have S0 : St [] H H [] := St.nil H
 refine AX.sr (AO.a rfl rfl (AO.nil (AX.sr (AO.m rfl rfl ?_))))
 obtain ⟨b2, b3, b4⟩ := bnd_some hd
 refine AO.c rfl (o_call (vs := [.int .i64 a0]) rfl Tryz.call105 (W_cmp_isNaN_int64 fu H a0 b2 b3)) (AO.a rfl rfl (AO.nil (AX.sr (AO.m rfl rfl ?_))))
 obtain ⟨b5, b6, a7⟩ := bnd_some b4
 refine AO.c rfl (o_call (vs := [.int .i64 a1]) rfl Tryz.call105 (W_cmp_isNaN_int64 fu H a1 b5 b6)) (AO.a rfl rfl (AO.nil (AX.seq (AX.sr (AO.m rfl rfl (AO.nil (AX.cond rfl (fun a2 => ?_) (fun a2 => ?_))))))))
 ·have a8 := bif_t a2 a7
  refine AX.seq (AX.sr (AO.m rfl rfl (AO.nil (AX.cond rfl (fun a3 => ?_) (fun a3 => ?_)))))
  ·have b7 := bif_t a3 a8
   refine AX.sr (AO.a rfl rfl (AO.nil (AX.ret ?_)))
   obtain rfl := some_inj b7
   exact ⟨.inr rfl, _, res1 rfl (rv_tmp rfl), rfl, (flatB_ok rfl), S0.hold⟩
  ·have b8 := bif_f a3 a8
   refine AX.skip (AX.sr (AO.a rfl rfl (AO.nil (AX.ret ?_))))
   obtain rfl := some_inj b8
   exact ⟨.inr rfl, _, res1 rfl (rv_tmp rfl), rfl, (flatB_ok rfl), S0.hold⟩
 ·have a9 := bif_f a2 a7
  refine AX.skip (AX.seq (AX.sr (AO.m rfl rfl (AO.nil (AX.cond rfl (fun a4 => ?_) (fun a4 => ?_))))))
  ·have b9 := bif_t a4 a9
   refine AX.sr (AO.a rfl rfl (AO.nil (AX.ret ?_)))
   obtain rfl := some_inj b9
   exact ⟨.inr rfl, _, res1 rfl (rv_tmp rfl), rfl, (flatB_ok rfl), S0.hold⟩
  ·have b0 := bif_f a4 a9
   refine AX.skip (AX.seq (AX.sr (AO.m rfl rfl (AO.m rfl rfl (AO.p rfl (p_lss rfl rfl) (AO.nil (AX.cond rfl (fun a5 => ?_) (fun a5 => ?_))))))))
   ·have c0 := bif_t a5 b0
    refine AX.sr (AO.a rfl rfl (AO.nil (AX.ret ?_)))
    obtain rfl := some_inj c0
    exact ⟨.inr rfl, _, res1 rfl (rv_tmp rfl), rfl, (flatB_ok rfl), S0.hold⟩
   ·have b1 := bif_f a5 b0
    refine AX.skip (AX.seq (AX.sr (AO.m rfl rfl (AO.m rfl rfl (AO.p rfl (p_gtr rfl rfl) (AO.nil (AX.cond rfl (fun a6 => ?_) (fun a6 => ?_))))))))
    ·have c1 := bif_t a6 b1
     refine AX.sr (AO.a rfl rfl (AO.nil (AX.ret ?_)))
     obtain rfl := some_inj c1
     exact ⟨.inr rfl, _, res1 rfl (rv_tmp rfl), rfl, (flatB_ok rfl), S0.hold⟩
    ·have c2 := bif_f a6 b1
     refine AX.skip (AX.sr (AO.a rfl rfl (AO.nil (AX.ret ?_))))
     obtain rfl := some_inj c2
     exact ⟨.inr rfl, _, res1 rfl (rv_tmp rfl), rfl, (flatB_ok rfl), S0.hold⟩
set_option maxHeartbeats 4000000 in
theorem W_slices_Compare_Sint64_int64 (fu : Nat) (H : AHeap) (p_a0 : Option Addr) (c_a0 : Nat) (a0 : List Int) (v_a0 : Vw H p_a0 a0.length c_a0 (ints a0)) (p_a1 : Option Addr) (c_a1 : Nat) (a1 : List Int) (v_a1 : Vw H p_a1 a1.length c_a1 (ints a1)) (r0 : Int) (hd : D_slices_Compare_Sint64_int64 fu a0 a1 = some r0) : ACall Tryz.prog 73 [.slice p_a0 a0.length c_a0, .slice p_a1 a1.length c_a1] H (.int .i64 r0) H := by
 refine ACall.bodyP (N := 36) [(0, .slice p_a0 a0.length c_a0), (1, .slice p_a1 a1.length c_a1)] Tryz.func73 rfl rfl rfl rfl ?_
 unfold D_slices_Compare_Sint64_int64 at hd
 have S0 : St [] H H [] := St.nil H
 refine AX.sr (AO.a rfl rfl (AO.nil (AX.seq (AX.sr (AO.m rfl rfl (AO.p rfl (p_len_slice rfl underlying27) (AO.m rfl rfl (AO.nil ?_))))))))
 obtain ⟨a6, b7, a4⟩ := bnd_some hd
 refine AX.cutS (fun t' H' => .inl () = a6 ∧ St [] H H' [] ∧ Am.Sub [(0, .slice p_a0 a0.length c_a0), (1, .slice p_a1 a1.length c_a1)] t') ?_ ?_
 ·refine AX.block (AX.loopF (fun s' t' H' => ∃ (a2 : Int), a2 = s' ∧ St [] H H' [] ∧ Am.Sub [(0, .slice p_a0 a0.length c_a0), (1, .slice p_a1 a1.length c_a1), (9, .slice p_a0 a0.length c_a0), (10, .int .i64 ((a0.length : Nat) : Int)), (11, .int .i64 a2)] t') b7 ?_ ?_)
  ·skip
   exact ⟨0, rfl, S0, Sub.k4 rfl rfl rfl rfl (Sub.k1 rfl (Sub.nil _))⟩
  ·rintro d6 _ t' b8 ⟨a2, rfl, a3, b9⟩ d7 a7 a5
   refine AX.sub b9 ?_
   unfold D_slices_Compare_Sint64_int64_s0 at a7
   refine AX.sr (AO.p rfl (p_lss rfl rfl) (AO.nil (AX.seq (AX.cond rfl (fun a8 => ?_) (fun a8 => ?_)))))
   ·have c0 := bif_t a8 a7
    refine AX.skip (AX.seq (AX.block (AX.sr (AO.m rfl rfl ?_))))
    obtain ⟨a9, b4⟩ := chk_some c0
    refine AO.p rfl (s_indexV (q := off p_a0 + a2.toNat) underlying27 sizeOf2 rfl ((a3.view v_a0).p (ints_get (lt_len rfl (inR_lt a9)))) rfl a9 (o1 _ _)) (AO.c rfl (s_load isAgg2 rfl ((a3.view v_a0).get _ _ (ints_get (lt_len rfl (inR_lt a9))))) (AO.a rfl rfl (AO.a rfl rfl (AO.nil (AX.seq (AX.sr (AO.m rfl rfl (AO.m rfl rfl (AO.p rfl (p_len_slice rfl underlying27) (AO.p rfl (p_geq rfl rfl) (AO.nil (AX.cond rfl (fun b0 => ?_) (fun b0 => ?_)))))))))))))
    ·have c1 := bif_t b0 b4
     refine AX.sr (AO.a rfl rfl (AO.nil (AX.ret ?_)))
     obtain rfl := some_inj c1
     have c2 : _ = a6 := a5
     subst c2
     obtain rfl := some_inj a4
     exact ⟨.inr rfl, _, res1 rfl (rv_tmp rfl), rfl, (flatB_ok rfl), a3.hold⟩
    ·have c3 := bif_f b0 b4
     refine AX.skip (AX.sr (AO.m rfl rfl (AO.m rfl rfl ?_)))
     obtain ⟨b1, c4⟩ := chk_some c3
     refine AO.p rfl (s_indexV (q := off p_a1 + a2.toNat) underlying27 sizeOf2 rfl ((a3.view v_a1).p (ints_get (lt_len rfl (inR_lt b1)))) rfl b1 (o1 _ _)) (AO.c rfl (s_load isAgg2 rfl ((a3.view v_a1).get _ _ (ints_get (lt_len rfl (inR_lt b1))))) (AO.a rfl rfl (AO.nil (AX.sr (AO.m rfl rfl (AO.m rfl rfl ?_))))))
     obtain ⟨c5, c6, b5⟩ := bnd_some c4
     refine AO.c rfl (o_call (vs := [.int .i64 (rd a0 a2.toNat), .int .i64 (rd a1 a2.toNat)]) rfl Tryz.call89 (W_cmp_Compare_int64 fu b8 (rd a0 a2.toNat) (rd a1 a2.toNat) c5 c6)) (AO.a rfl rfl (AO.nil (AX.sr (AO.m rfl rfl (AO.p rfl (p_neq rfl rfl) (AO.nil (AX.cond rfl (fun b2 => ?_) (fun b2 => ?_))))))))
     ·have c7 := bif_t b2 b5
      refine AX.sr (AO.m rfl rfl (AO.a rfl rfl (AO.nil (AX.ret ?_))))
      obtain rfl := some_inj c7
      have c8 : _ = a6 := a5
      subst c8
      obtain rfl := some_inj a4
      exact ⟨.inr rfl, _, res1 rfl (rv_tmp rfl), rfl, (flatB_ok rfl), a3.hold⟩
     ·have c9 := bif_f b2 b5
      refine AX.skip (AX.region ?_)
      obtain ⟨d0, d1⟩ := chk_some c9
      refine AO.p rfl (p_addE rfl rfl d0) (AO.m rfl rfl (AO.nil ?_))
      obtain rfl := some_inj d1
      exact ⟨a2 + 1, a5, (a2 + 1), rfl, a3, Sub.k4 rfl rfl rfl rfl (Sub.k1 rfl (Sub.nil _))⟩
   ·have d2 := bif_f a8 a7
    refine AX.exit ?_
    obtain rfl := some_inj d2
    exact ⟨a5, a3, Sub.k2 rfl rfl (Sub.nil _)⟩
 ·rintro t' d8 ⟨rfl, b6, d3⟩
  refine ⟨_, d3, ?_⟩
  refine AX.seq (AX.sr (AO.m rfl rfl (AO.p rfl (p_len_slice rfl underlying27) (AO.m rfl rfl (AO.p rfl (p_len_slice rfl underlying27) (AO.p rfl (p_lss rfl rfl) (AO.nil (AX.cond rfl (fun b3 => ?_) (fun b3 => ?_)))))))))
  ·have d4 := bif_t b3 a4
   refine AX.sr (AO.a rfl rfl (AO.nil (AX.ret ?_)))
   obtain rfl := some_inj d4
   exact ⟨.inr rfl, _, res1 rfl (rv_tmp rfl), rfl, (flatB_ok rfl), b6.hold⟩
  ·have d5 := bif_f b3 a4
   refine AX.skip (AX.sr (AO.a rfl rfl (AO.nil (AX.ret ?_))))
   obtain rfl := some_inj d5
   exact ⟨.inr rfl, _, res1 rfl (rv_tmp rfl), rfl, (flatB_ok rfl), b6.hold⟩
set_option maxHeartbeats 4000000 in
theorem W_slices_insertionSortCmpFunc_Sint64__slices_Compare_Sint64_int64 (fu : Nat) (H : AHeap) (a1 : Int) (a2 : Int) (p_n0 : Option Addr) (k_n0 c_n0 : Nat) (T_n0 : Tb) (n0 : List (List Int)) (l_n0 : n0.length = k_n0) (s_n0 : Sb p_n0 k_n0 c_n0 1) (t_n0 : trows T_n0 = n0) (z_n0 : TSb T_n0) (hn : (([oseg p_n0 (tcells T_n0), tseg T_n0] : List Sg).flatten.map (·.1)).Nodup) (ho : ∀ x ∈ ([oseg p_n0 (tcells T_n0), tseg T_n0] : List Sg).flatten, x.1 < H.length ∧ hget H x.1 = x.2) (m_n0 : List (List Int)) (hd : D_slices_insertionSortCmpFunc_Sint64__slices_Compare_Sint64_int64 fu a1 a2 k_n0 n0 = some m_n0) : ∃ v G', ACall Tryz.prog 95 [.slice p_n0 k_n0 c_n0, .int .i64 a1, .int .i64 a2, .func (.func 73) #[] #[]] H v G' ∧ ∃ (T_m_n0 : Tb), (v = .tuple #[]) ∧ St (([oseg p_n0 (tcells T_n0), tseg T_n0] : List Sg).flatten.map (·.1)) H G' [oseg p_n0 (tcells T_m_n0), tseg T_m_n0] ∧ m_n0.length = k_n0 ∧ trows T_m_n0 = m_n0 ∧ TSb T_m_n0 := by
 refine ACall.bodyX (args := [.slice p_n0 k_n0 c_n0, .int .i64 a1, .int .i64 a2, .func (.func 73) #[] #[]]) (N := 53) [(0, .slice p_n0 k_n0 c_n0), (1, .int .i64 a1), (2, .int .i64 a2), (3, .func (.func 73) #[] #[])] (fun v G' => ∃ (T_m_n0 : Tb), (v = .tuple #[]) ∧ St (([oseg p_n0 (tcells T_n0), tseg T_n0] : List Sg).flatten.map (·.1)) H G' [oseg p_n0 (tcells T_m_n0), tseg T_m_n0] ∧ m_n0.length = k_n0 ∧ trows T_m_n0 = m_n0 ∧ TSb T_m_n0) Tryz.func95 rfl rfl rfl rfl ?_
 unfold D_slices_insertionSortCmpFunc_Sint64__slices_Compare_Sint64_int64 at hd
 have S0 := St.initF hn ho
 generalize hM0 : (([oseg p_n0 (tcells T_n0), tseg T_n0] : List Sg).flatten.map (·.1)) = M0 at S0 ⊢
 refine AX.sr (AO.m rfl rfl ?_)
 obtain ⟨f4, f5⟩ := chk_some hd
 refine AO.p rfl (p_addE rfl rfl f4) (AO.a rfl rfl (AO.nil ?_))
 obtain ⟨f6, f7, f8⟩ := bnd_some f5
 refine AX.cutS (fun t' H' => ∃ (c2 : List (List Int)) (b4 : Tb), c2 = f6 ∧ St M0 H H' [oseg p_n0 (tcells b4), tseg b4] ∧ c2.length = k_n0 ∧ trows b4 = c2 ∧ TSb b4 ∧ Am.Sub [] t') ?_ ?_
 ·refine AX.block (AX.loopF (fun s' t' H' => ∃ (b5 : List (List Int)) (a5 : Int) (b0 : Tb), (b5, a5) = s' ∧ St M0 H H' [oseg p_n0 (tcells b0), tseg b0] ∧ b5.length = k_n0 ∧ trows b0 = b5 ∧ TSb b0 ∧ Am.Sub [(0, .slice p_n0 k_n0 c_n0), (1, .int .i64 a1), (2, .int .i64 a2), (3, .func (.func 73) #[] #[]), (8, .int .i64 a5)] t') f7 ?_ ?_)
  ·skip
   have f9 := S0.front 1 rfl
   have g0 := f9.front 1 rfl
   exact ⟨n0, (a1 + 1), T_n0, rfl, g0, l_n0, t_n0, z_n0, Sub.k4 rfl rfl rfl rfl (Sub.k1 rfl (Sub.nil _))⟩
  ·rintro n4 _ t' n5 ⟨b5, a5, b0, rfl, d4, d5, d6, d7, g1⟩ n6 c7 d8
   refine AX.sub g1 ?_
   unfold D_slices_insertionSortCmpFunc_Sint64__slices_Compare_Sint64_int64_s0 at c7
   refine AX.seq (AX.sr (AO.m rfl rfl (AO.m rfl rfl (AO.p rfl (p_lss rfl rfl) (AO.nil (AX.cond rfl (fun c8 => ?_) (fun c8 => ?_)))))))
   ·have g2 := bif_t c8 c7
    refine AX.skip (AX.seq (AX.block (AX.sr (AO.m rfl rfl (AO.a rfl rfl (AO.nil ?_))))))
    obtain ⟨g3, g4, g5⟩ := bnd_some g2
    refine AX.cutS (fun t' H' => ∃ (b6 : List (List Int)) (b7 : Tb), b6 = g3 ∧ St M0 H H' [oseg p_n0 (tcells b7), tseg b7] ∧ b6.length = k_n0 ∧ trows b7 = b6 ∧ TSb b7 ∧ Am.Sub [(0, .slice p_n0 k_n0 c_n0), (1, .int .i64 a1), (2, .int .i64 a2), (3, .func (.func 73) #[] #[]), (8, .int .i64 a5)] t') ?_ ?_
    ·refine AX.block (AX.loopF (fun s' t' H' => ∃ (a3 : List (List Int)) (a0 : Int) (a4 : Tb), (a3, a0) = s' ∧ St M0 H H' [oseg p_n0 (tcells a4), tseg a4] ∧ a3.length = k_n0 ∧ trows a4 = a3 ∧ TSb a4 ∧ Am.Sub [(0, .slice p_n0 k_n0 c_n0), (1, .int .i64 a1), (2, .int .i64 a2), (3, .func (.func 73) #[] #[]), (8, .int .i64 a5), (9, .int .i64 a0)] t') g4 ?_ ?_)
     ·skip
      have g6 := d4.front 1 rfl
      have g7 := g6.front 1 rfl
      exact ⟨b5, a5, b0, rfl, g7, d5, d6, d7, Sub.k4 rfl rfl rfl rfl (Sub.k2 rfl rfl (Sub.nil _))⟩
     ·rintro n7 _ t' g8 ⟨a3, a0, a4, rfl, a6, a7, a8, a9, g9⟩ n8 d9 e0
      refine AX.sub g9 ?_
      unfold D_slices_insertionSortCmpFunc_Sint64__slices_Compare_Sint64_int64_s1 at d9
      refine AX.seq ?_
      obtain ⟨h0, e1, e2⟩ := bnd_some d9
      refine AX.cut (fun t' H' => ∃ (c9 : Bool), c9 = h0 ∧ St M0 H H' [oseg p_n0 (tcells a4), tseg a4] ∧ Am.Sub [(0, .slice p_n0 k_n0 c_n0), (1, .int .i64 a1), (2, .int .i64 a2), (3, .func (.func 73) #[] #[]), (8, .int .i64 a5), (9, .int .i64 a0), (34, .bool c9)] t') ?_ ?_
      ·skip
       refine DR.startS [false, false, false, false, false, false, false, false, false, false, false, false, false, false, true, false, false] mix (by kernel_rfl) (fun hst => ?_)
       refine DR.p rfl rfl (p_move rfl) (DR.p rfl rfl (p_move rfl) (DR.p rfl rfl (p_gtr rfl rfl) (DR.pb rfl rfl (p_move rfl) (fun d0 => ?_) (fun d0 => ?_))))
       ·have h1 := bif_t d0 e1
        refine DR.gp rfl rfl rfl rfl (p_move rfl) (DR.gp rfl rfl rfl rfl (p_move rfl) (DR.gp rfl rfl rfl rfl (p_move rfl) ?_))
        obtain ⟨c3, h2⟩ := chk_some h1
        refine DR.gp rfl rfl rfl rfl (s_indexV (q := a0.toNat) underlying24 sizeOf27 rfl (s_n0.at (inR_pos c3)) rfl c3 (z1 _)) ?_
        obtain ⟨e3, e4, e5, h3⟩ := tget a8 (lt_len a7 (inR_lt c3))
        refine DR.gr rfl rfl rfl rfl (r_load rfl isAgg27) (one_read (row_cell (a6.oat (k := 0) rfl (s_n0.at (inR_pos c3))) h3) (TVw.at (a6.oviewT (k := 1) rfl a9) e5).inn.bel) (DR.gp rfl rfl rfl rfl (p_move rfl) (DR.gp rfl rfl rfl rfl (p_move rfl) ?_))
        obtain ⟨h4, h5⟩ := chk_some h2
        refine DR.gp rfl rfl rfl rfl (p_subE rfl rfl h4) ?_
        obtain ⟨c4, h6⟩ := chk_some h5
        refine DR.gp rfl rfl rfl rfl (s_indexV (q := (a0 - 1).toNat) underlying24 sizeOf27 rfl (s_n0.at (inR_pos c4)) rfl c4 (z1 _)) ?_
        obtain ⟨e6, e7, e8, h7⟩ := tget a8 (lt_len a7 (inR_lt c4))
        refine DR.gr rfl rfl rfl rfl (r_load rfl isAgg27) (one_read (row_cell (a6.oat (k := 0) rfl (s_n0.at (inR_pos c4))) h7) (TVw.at (a6.oviewT (k := 1) rfl a9) e8).inn.bel) ?_
        obtain ⟨e9, h8, h9⟩ := bnd_some h6
        refine DR.gw rfl rfl rfl rfl (o_callV (vs := [.slice e3 ((rw_ a3 a0.toNat).length) e4, .slice e6 ((rw_ a3 ((a0 - 1).toNat)).length) e7]) rfl rfl Tryz.call73 (W_slices_Compare_Sint64_int64 fu g8 e3 e4 (rw_ a3 a0.toNat) (TVw.at (a6.oviewT (k := 1) rfl a9) e5) e6 e7 (rw_ a3 ((a0 - 1).toNat)) (TVw.at (a6.oviewT (k := 1) rfl a9) e8) e9 h8)) (Nat.le_refl _) (DR.gp rfl rfl rfl rfl (p_lss rfl rfl) (DR.p rfl rfl (p_pickT rfl rfl) (DR.nil 17 [] hst (by kernel_rfl) trivial ?_)))
        have i0 := a6.front 1 rfl
        have i1 := i0.front 1 rfl
        exact ⟨(decide (e9 < 0)), (some_inj h9), i1, Sub.k4 rfl rfl rfl rfl (Sub.k2 rfl rfl (Sub.k1 rfl (Sub.nil _)))⟩
       ·have i2 := bif_f d0 e1
        refine DR.gn rfl rfl rfl rfl (DR.gn rfl rfl rfl rfl (DR.gn rfl rfl rfl rfl (DR.gn rfl rfl rfl rfl (DR.gn rfl rfl rfl rfl (DR.gn rfl rfl rfl rfl (DR.gn rfl rfl rfl rfl (DR.gn rfl rfl rfl rfl (DR.gn rfl rfl rfl rfl (DR.gn rfl rfl rfl rfl (DR.gn rfl rfl rfl rfl (DR.gn rfl rfl rfl rfl (DR.p rfl rfl (p_pickF rfl rfl) (DR.nil 17 [] hst (by kernel_rfl) trivial ?_)))))))))))))
        have i3 := a6.front 1 rfl
        have i4 := i3.front 1 rfl
        exact ⟨false, (some_inj i2), i4, Sub.k4 rfl rfl rfl rfl (Sub.k2 rfl rfl (Sub.k1 rfl (Sub.nil _)))⟩
      ·rintro t' n9 ⟨c9, rfl, b1, i5⟩
       refine AX.sub i5 (AX.cond rfl (fun d1 => ?_) (fun d1 => ?_))
       ·have i6 := bif_t d1 e2
        refine AX.skip (AX.seq (AX.block (DR.startS [false, false, false, false, false, false, false, false, false, false, false, false, false, false, false, true, false, true] mix (by kernel_rfl) (fun hst => ?_))))
        refine DR.p rfl rfl (p_move rfl) (DR.p rfl rfl (p_move rfl) (DR.p rfl rfl (p_move rfl) (DR.p rfl rfl (p_move rfl) ?_)))
        obtain ⟨i7, i8⟩ := chk_some i6
        refine DR.p rfl rfl (p_subE rfl rfl i7) (DR.p rfl rfl (p_move rfl) (DR.p rfl rfl (p_move rfl) ?_))
        obtain ⟨i9, j0⟩ := chk_some i8
        refine DR.p rfl rfl (p_subE rfl rfl i9) ?_
        obtain ⟨c5, j1⟩ := chk_some j0
        refine DR.p rfl rfl (s_indexV (q := (a0 - 1).toNat) underlying24 sizeOf27 rfl (s_n0.at (inR_pos c5)) rfl c5 (z1 _)) ?_
        obtain ⟨b2, b3, d2, j2⟩ := tget a8 (lt_len a7 (inR_lt c5))
        refine DR.r rfl rfl (r_load rfl isAgg27) (one_read (row_cell (b1.oat (k := 0) rfl (s_n0.at (inR_pos c5))) j2) (TVw.at (b1.oviewT (k := 1) rfl a9) d2).inn.bel) (DR.p rfl rfl (p_move rfl) (DR.p rfl rfl (p_move rfl) ?_))
        obtain ⟨c6, j3⟩ := chk_some j1
        refine DR.p rfl rfl (s_indexV (q := a0.toNat) underlying24 sizeOf27 rfl (s_n0.at (inR_pos c6)) rfl c6 (z1 _)) ?_
        obtain ⟨b8, b9, d3, j4⟩ := tget a8 (lt_len a7 (inR_lt c6))
        refine DR.r rfl rfl (r_load rfl isAgg27) (one_read (row_cell (b1.oat (k := 0) rfl (s_n0.at (inR_pos c6))) j4) (TVw.at (b1.oviewT (k := 1) rfl a9) d3).inn.bel) ?_
        obtain ⟨c0, j5⟩ := chk_some j3
        refine DR.p rfl rfl (s_indexV (q := a0.toNat) underlying24 sizeOf27 rfl (s_n0.at (inR_pos c0)) rfl c0 (z1 _)) ?_
        obtain ⟨j6, f0, j7⟩ := b1.oset (k := 0) (p := p_n0) rfl (s_n0.at (inR_pos c0)) (tcells (a4.set a0.toNat (b2, b3, (rw_ a3 ((a0 - 1).toNat)))))
        have f1 : St M0 H j6 [oseg p_n0 (tcells (a4.set a0.toNat (b2, b3, (rw_ a3 ((a0 - 1).toNat))))), tseg a4] := j7
        refine DR.s rfl (s_store sizeOf27 rfl rfl rfl (b1.oat (k := 0) rfl (s_n0.at (inR_pos c0))) (tc_lt a8 a7 (inR_lt c0)) ((congrArg (fun l => List.set _ _ (AObj.row false l)) (tcells_put _ _ _ _ _)).trans f0)) (set_le f0) ?_
        obtain ⟨c1, j8⟩ := chk_some j5
        refine DR.p rfl rfl (s_indexV (q := (a0 - 1).toNat) underlying24 sizeOf27 rfl (s_n0.at (inR_pos c1)) rfl c1 (z1 _)) ?_
        obtain ⟨f2, f3, j9⟩ := f1.oset (k := 0) (p := p_n0) rfl (s_n0.at (inR_pos c1)) (tcells ((a4.set a0.toNat (b2, b3, (rw_ a3 ((a0 - 1).toNat)))).set ((a0 - 1).toNat) (b8, b9, (rw_ a3 a0.toNat))))
        have k0 : St M0 H f2 [oseg p_n0 (tcells ((a4.set a0.toNat (b2, b3, (rw_ a3 ((a0 - 1).toNat)))).set ((a0 - 1).toNat) (b8, b9, (rw_ a3 a0.toNat)))), tseg a4] := j9
        have k3 := k0.front 1 rfl
        have k5 := k3.tswap d3 d2
        have k6 : St M0 H f2 [tseg ((a4.set a0.toNat (b2, b3, (rw_ a3 ((a0 - 1).toNat)))).set ((a0 - 1).toNat) (b8, b9, (rw_ a3 a0.toNat))), oseg p_n0 (tcells ((a4.set a0.toNat (b2, b3, (rw_ a3 ((a0 - 1).toNat)))).set ((a0 - 1).toNat) (b8, b9, (rw_ a3 a0.toNat))))] := k5
        refine DR.s rfl (s_store sizeOf27 rfl rfl rfl (f1.oat (k := 0) rfl (s_n0.at (inR_pos c1))) (tc_lt (trows_set' a8) (len_set a7) (inR_lt c1)) ((congrArg (fun l => List.set _ _ (AObj.row false l)) (tcells_put _ _ _ _ _)).trans f3)) (set_le f3) (DR.nil 18 [] hst (by kernel_rfl) trivial (AX.region (AO.m rfl rfl ?_)))
        obtain ⟨k7, k8⟩ := chk_some j8
        refine AO.p rfl (p_subE rfl rfl k7) (AO.a rfl rfl (AO.nil ?_))
        obtain rfl := some_inj k8
        have k9 := k6.front 0 rfl
        have l0 := k9.front 1 rfl
        exact ⟨(((a3.set a0.toNat (rw_ a3 ((a0 - 1).toNat))).set ((a0 - 1).toNat) (rw_ a3 a0.toNat)), a0 - 1), e0, ((a3.set a0.toNat (rw_ a3 ((a0 - 1).toNat))).set ((a0 - 1).toNat) (rw_ a3 a0.toNat)), (a0 - 1), ((a4.set a0.toNat (b2, b3, (rw_ a3 ((a0 - 1).toNat)))).set ((a0 - 1).toNat) (b8, b9, (rw_ a3 a0.toNat))), rfl, l0, (len_set (len_set a7)), (trows_set' (trows_set' a8)), (TSb.swap a9 d3 d2), Sub.k4 rfl rfl rfl rfl (Sub.k2 rfl rfl (Sub.nil _))⟩
       ·have l1 := bif_f d1 e2
        refine AX.exit ?_
        obtain rfl := some_inj l1
        have l2 := b1.front 1 rfl
        have l3 := l2.front 1 rfl
        exact ⟨a3, a4, e0, l3, a7, a8, a9, Sub.k4 rfl rfl rfl rfl (Sub.k1 rfl (Sub.nil _))⟩
    ·rintro t' o0 ⟨b6, b7, rfl, l4, l5, l6, l7, l8⟩
     refine ⟨_, l8, ?_⟩
     refine AX.region (AO.m rfl rfl ?_)
     obtain ⟨l9, m0⟩ := chk_some g5
     refine AO.p rfl (p_addE rfl rfl l9) (AO.a rfl rfl (AO.nil ?_))
     obtain rfl := some_inj m0
     have m1 := l4.front 1 rfl
     have m2 := m1.front 1 rfl
     exact ⟨(b6, a5 + 1), d8, b6, (a5 + 1), b7, rfl, m2, l5, l6, l7, Sub.k4 rfl rfl rfl rfl (Sub.k1 rfl (Sub.nil _))⟩
   ·have m3 := bif_f c8 c7
    refine AX.exit ?_
    obtain rfl := some_inj m3
    have m4 := d4.front 1 rfl
    have m5 := m4.front 1 rfl
    exact ⟨b5, b0, d8, m5, d5, d6, d7, Sub.nil _⟩
 ·rintro t' o1 ⟨c2, b4, rfl, m6, m7, m8, m9, n1⟩
  refine ⟨_, n1, ?_⟩
  obtain rfl := some_inj f8
  have n2 := m6.front 1 rfl
  have n3 := n2.front 1 rfl
  exact ⟨.inl rfl, _, res_none rfl, b4, rfl, n3, m7, m8, m9⟩
set_option maxHeartbeats 4000000 in
theorem W_slices_pdqsortCmpFunc_Sint64__slices_Compare_Sint64_int64 : ∀ (fu : Nat) (H : AHeap) (a1 : Int) (a2 : Int) (a3 : Int) (p_n0 : Option Addr) (k_n0 c_n0 : Nat) (T_n0 : Tb) (n0 : List (List Int)) (l_n0 : n0.length = k_n0) (s_n0 : Sb p_n0 k_n0 c_n0 1) (t_n0 : trows T_n0 = n0) (z_n0 : TSb T_n0) (hn : (([oseg p_n0 (tcells T_n0), tseg T_n0] : List Sg).flatten.map (·.1)).Nodup) (ho : ∀ x ∈ ([oseg p_n0 (tcells T_n0), tseg T_n0] : List Sg).flatten, x.1 < H.length ∧ hget H x.1 = x.2) (m_n0 : List (List Int)) (hd : D_slices_pdqsortCmpFunc_Sint64__slices_Compare_Sint64_int64 fu a1 a2 a3 k_n0 n0 = some m_n0), ∃ v G', ACall Tryz.prog 87 [.slice p_n0 k_n0 c_n0, .int .i64 a1, .int .i64 a2, .int .i64 a3, .func (.func 73) #[] #[]] H v G' ∧ ∃ (T_m_n0 : Tb), (v = .tuple #[]) ∧ St (([oseg p_n0 (tcells T_n0), tseg T_n0] : List Sg).flatten.map (·.1)) H G' [oseg p_n0 (tcells T_m_n0), tseg T_m_n0] ∧ m_n0.length = k_n0 ∧ trows T_m_n0 = m_n0 ∧ TSb T_m_n0 := by
 intro fu
 induction fu with
 | zero => intros; rename_i hd; cases hd
 | succ fu ih =>
 intro H a1 a2 a3 p_n0 k_n0 c_n0 T_n0 n0 l_n0 s_n0 t_n0 z_n0 hn ho m_n0 hd
 refine ACall.bodyX (args := [.slice p_n0 k_n0 c_n0, .int .i64 a1, .int .i64 a2, .int .i64 a3, .func (.func 73) #[] #[]]) (N := 148) [(0, .slice p_n0 k_n0 c_n0), (1, .int .i64 a1), (2, .int .i64 a2), (3, .int .i64 a3), (4, .func (.func 73) #[] #[])] (fun v G' => ∃ (T_m_n0 : Tb), (v = .tuple #[]) ∧ St (([oseg p_n0 (tcells T_n0), tseg T_n0] : List Sg).flatten.map (·.1)) H G' [oseg p_n0 (tcells T_m_n0), tseg T_m_n0] ∧ m_n0.length = k_n0 ∧ trows T_m_n0 = m_n0 ∧ TSb T_m_n0) Tryz.func87 rfl rfl rfl rfl ?_
 unfold D_slices_pdqsortCmpFunc_Sint64__slices_Compare_Sint64_int64 at hd
 have S0 := St.initF hn ho
 generalize hM0 : (([oseg p_n0 (tcells T_n0), tseg T_n0] : List Sg).flatten.map (·.1)) = M0 at S0 ⊢
 refine AX.sr (AO.a rfl rfl (AO.nil (AX.sr (AO.a rfl rfl (AO.nil ?_)))))
 obtain ⟨a8, a9, b0⟩ := bnd_some hd
 ·refine AX.block (AX.loopF (fun s' t' H' => () = s' ∧ St M0 H H' [oseg p_n0 (tcells T_n0), tseg T_n0] ∧ Am.Sub [(0, .slice p_n0 k_n0 c_n0), (1, .int .i64 a1), (2, .int .i64 a2), (3, .int .i64 a3), (4, .func (.func 73) #[] #[]), (10, .bool true), (11, .bool true)] t') a9 ?_ ?_)
  ·skip
   have b1 := S0.front 1 rfl
   have b2 := b1.front 1 rfl
   exact ⟨rfl, b2, Sub.k4 rfl rfl rfl rfl (Sub.k2 rfl rfl (Sub.k1 rfl (Sub.nil _)))⟩
  ·rintro d4 _ t' a5 ⟨rfl, b3, b4⟩ d5 a6 b5
   refine AX.sub b4 ?_
   unfold D_slices_pdqsortCmpFunc_Sint64__slices_Compare_Sint64_int64_s0 at a6
   refine AX.block (AX.sr (AO.m rfl rfl (AO.m rfl rfl ?_)))
   obtain ⟨b6, a7⟩ := chk_some a6
   refine AO.p rfl (p_subE rfl rfl b6) (AO.a rfl rfl (AO.nil (AX.seq (AX.sr (AO.m rfl rfl (AO.p rfl (p_leq rfl rfl) (AO.nil (AX.cond rfl (fun a0 => ?_) (fun a0 => ?_)))))))))
   ·have b7 := bif_t a0 a7
    refine AX.sr (AO.m rfl rfl (AO.m rfl rfl (AO.m rfl rfl (AO.m rfl rfl ?_))))
    have b8 := b3.front 1 rfl
    have b9 := b8.front 1 rfl
    have a4 : St M0 H a5 [oseg p_n0 (tcells T_n0), tseg T_n0] := b9
    obtain ⟨c0, c1, c2⟩ := bnd_some b7
    obtain ⟨_, d6, c3, c4, rfl, c5, c6, c7, c8⟩ := W_slices_insertionSortCmpFunc_Sint64__slices_Compare_Sint64_int64 fu a5 a1 a2 p_n0 k_n0 c_n0 T_n0 n0 l_n0 s_n0 t_n0 z_n0 (St.fnodup (A := [oseg p_n0 (tcells T_n0), tseg T_n0]) a4) (St.fmem (A := [oseg p_n0 (tcells T_n0), tseg T_n0]) a4) c0 c1
    have c9 := St.callM (A := [oseg p_n0 (tcells T_n0), tseg T_n0]) a4 c5 (fun j h => h)
    refine AO.c rfl (o_call (vs := [.slice p_n0 k_n0 c_n0, .int .i64 a1, .int .i64 a2, .func (.func 73) #[] #[]]) rfl Tryz.call95 c3) (AO.nil (AX.ret ?_))
    obtain rfl := some_inj c2
    have d0 : _ = a8 := b5
    subst d0
    obtain rfl := some_inj b0
    have d1 := c9.front 1 rfl
    have d2 := d1.front 1 rfl
    exact ⟨.inr rfl, _, res_none rfl, c4, rfl, d2, c6, c7, c8⟩
   ·have d3 := bif_f a0 a7
    cases d3
set_option maxHeartbeats 4000000 in
theorem W_slices_SortFunc_SSint64_Sint64__slices_Compare_Sint64_int64 (fu : Nat) (H : AHeap) (p_n0 : Option Addr) (k_n0 c_n0 : Nat) (T_n0 : Tb) (n0 : List (List Int)) (l_n0 : n0.length = k_n0) (s_n0 : Sb p_n0 k_n0 c_n0 1) (t_n0 : trows T_n0 = n0) (z_n0 : TSb T_n0) (hn : (([oseg p_n0 (tcells T_n0), tseg T_n0] : List Sg).flatten.map (·.1)).Nodup) (ho : ∀ x ∈ ([oseg p_n0 (tcells T_n0), tseg T_n0] : List Sg).flatten, x.1 < H.length ∧ hget H x.1 = x.2) (m_n0 : List (List Int)) (hd : D_slices_SortFunc_SSint64_Sint64__slices_Compare_Sint64_int64 fu k_n0 n0 = some m_n0) : ∃ v G', ACall Tryz.prog 72 [.slice p_n0 k_n0 c_n0, .func (.func 73) #[] #[]] H v G' ∧ ∃ (T_m_n0 : Tb), (v = .tuple #[]) ∧ St (([oseg p_n0 (tcells T_n0), tseg T_n0] : List Sg).flatten.map (·.1)) H G' [oseg p_n0 (tcells T_m_n0), tseg T_m_n0] ∧ m_n0.length = k_n0 ∧ trows T_m_n0 = m_n0 ∧ TSb T_m_n0 := by
 refine ACall.bodyX (args := [.slice p_n0 k_n0 c_n0, .func (.func 73) #[] #[]]) (N := 14) [(0, .slice p_n0 k_n0 c_n0), (1, .func (.func 73) #[] #[])] (fun v G' => ∃ (T_m_n0 : Tb), (v = .tuple #[]) ∧ St (([oseg p_n0 (tcells T_n0), tseg T_n0] : List Sg).flatten.map (·.1)) H G' [oseg p_n0 (tcells T_m_n0), tseg T_m_n0] ∧ m_n0.length = k_n0 ∧ trows T_m_n0 = m_n0 ∧ TSb T_m_n0) Tryz.func72 rfl rfl rfl rfl ?_
 unfold D_slices_SortFunc_SSint64_Sint64__slices_Compare_Sint64_int64 at hd
 have S0 := St.initF hn ho
 generalize hM0 : (([oseg p_n0 (tcells T_n0), tseg T_n0] : List Sg).flatten.map (·.1)) = M0 at S0 ⊢
 refine AX.sr (AO.m rfl rfl (AO.p rfl (p_len_slice rfl underlying24) (AO.a rfl rfl (AO.nil (AX.region (AO.m rfl rfl (AO.m rfl rfl (AO.m rfl rfl (AO.p rfl (p_conv underlying3 underlying88 rfl rfl) ?_)))))))))
 obtain ⟨a0, a2, a3⟩ := bnd_some hd
 refine AO.c rfl (o_call (vs := [.int .u64 (IntKind.u64.wrap ((k_n0 : Nat) : Int))]) rfl Tryz.call88 (W_math_bits_Len fu H (IntKind.u64.wrap ((k_n0 : Nat) : Int)) a0 a2)) (AO.m rfl rfl ?_)
 have a4 := S0.front 1 rfl
 have a5 := a4.front 1 rfl
 have a1 : St M0 H H [oseg p_n0 (tcells T_n0), tseg T_n0] := a5
 obtain ⟨a6, a7, a8⟩ := bnd_some a3
 obtain ⟨_, b8, a9, b0, rfl, b1, b2, b3, b4⟩ := W_slices_pdqsortCmpFunc_Sint64__slices_Compare_Sint64_int64 fu H 0 ((k_n0 : Nat) : Int) a0 p_n0 k_n0 c_n0 T_n0 n0 l_n0 s_n0 t_n0 z_n0 (St.fnodup (A := [oseg p_n0 (tcells T_n0), tseg T_n0]) a1) (St.fmem (A := [oseg p_n0 (tcells T_n0), tseg T_n0]) a1) a6 a7
 have b5 := St.callM (A := [oseg p_n0 (tcells T_n0), tseg T_n0]) a1 b1 (fun j h => h)
 refine AO.c rfl (o_call (vs := [.slice p_n0 k_n0 c_n0, .int .i64 0, .int .i64 ((k_n0 : Nat) : Int), .int .i64 a0, .func (.func 73) #[] #[]]) rfl Tryz.call87 a9) (AO.nil ?_)
 obtain rfl := some_inj a8
 have b6 := b5.front 1 rfl
 have b7 := b6.front 1 rfl
 exact ⟨.inl rfl, _, res_none rfl, b0, rfl, b7, b2, b3, b4⟩
set_option maxHeartbeats 4000000 in
theorem W_impl_sortedPairs (fu : Nat) (H : AHeap) (p_a0 : Option Addr) (c_a0 : Nat) (T_a0 : Tb) (a0 : List (List Int)) (t_a0 : trows T_a0 = a0) (v_a0 : Vw H p_a0 a0.length c_a0 (tcells T_a0)) (w_a0 : TVw H T_a0) (r0 : List (List Int)) (hd : D_impl_sortedPairs fu a0 = some r0) : ∃ v G', ACall Tryz.prog 43 [.slice p_a0 a0.length c_a0] H v G' ∧ ∃ (p_r0 : Option Addr) (c_r0 : Nat) (T_r0 : Tb), (v = .slice p_r0 r0.length c_r0) ∧ St [] H G' [oseg p_r0 (tcells T_r0), tseg T_r0] ∧ Sb p_r0 r0.length c_r0 1 ∧ trows T_r0 = r0 ∧ TSb T_r0 := by
 refine ACall.bodyX (args := [.slice p_a0 a0.length c_a0]) (N := 35) [(0, .slice p_a0 a0.length c_a0)] (fun v G' => ∃ (p_r0 : Option Addr) (c_r0 : Nat) (T_r0 : Tb), (v = .slice p_r0 r0.length c_r0) ∧ St [] H G' [oseg p_r0 (tcells T_r0), tseg T_r0] ∧ Sb p_r0 r0.length c_r0 1 ∧ trows T_r0 = r0 ∧ TSb T_r0) Tryz.func43 rfl rfl rfl rfl ?_
 unfold D_impl_sortedPairs at hd
 have S0 : St [] H H [] := St.nil H
 refine AX.sr (AO.a rfl rfl (AO.nil (AX.sr ?_)))
 obtain ⟨i8, c5, d5, d6, d7⟩ := S0.new (AObj.row false (tcells []))
 have S102t := d7.nilseg 1
 refine AO.c rfl (s_build0 (i := c5) underlying24 sizeOf27 d5 d6) (AO.a rfl rfl (AO.nil (AX.seq (AX.sr (AO.m rfl rfl (AO.p rfl (p_len_slice rfl underlying24) (AO.m rfl rfl (AO.nil ?_))))))))
 obtain ⟨d8, d9, e0⟩ := bnd_some hd
 refine AX.cutS (fun t' H' => ∃ (a5 : List (List Int)) (a6 : Option Addr) (b0 : Nat) (a3 : Tb), a5 = d8 ∧ St [] H H' [oseg a6 (tcells a3), tseg a3] ∧ trows a3 = a5 ∧ TSb a3 ∧ Sb a6 (a5.length) b0 1 ∧ Am.Sub [(3, .slice a6 a5.length b0)] t') ?_ ?_
 ·refine AX.block (AX.loopF (fun s' t' H' => ∃ (a2 : List (List Int)) (a1 : Int) (b1 : Option Addr) (b2 : Nat) (a7 : Tb), (a2, a1) = s' ∧ St [] H H' [oseg b1 (tcells a7), tseg a7] ∧ trows a7 = a2 ∧ TSb a7 ∧ Sb b1 (a2.length) b2 1 ∧ Am.Sub [(3, .slice b1 a2.length b2), (7, .slice p_a0 a0.length c_a0), (8, .int .i64 ((a0.length : Nat) : Int)), (9, .int .i64 a1)] t') d9 ?_ ?_)
  ·skip
   have e1 := S102t.front 1 rfl
   have e2 := e1.front 1 rfl
   exact ⟨[], 0, (some (Addr.mk c5 0 none)), 0, [], rfl, e2, rfl, TSb.nil, (Sb.lit (n := 0) (by decide)), Sub.k4 rfl rfl rfl rfl (Sub.nil _)⟩
  ·rintro i9 _ t' j0 ⟨a2, a1, b1, b2, a7, rfl, a4, b4, c6, b5, e3⟩ j1 b6 c7
   refine AX.sub e3 ?_
   unfold D_impl_sortedPairs_s0 at b6
   refine AX.sr (AO.p rfl (p_lss rfl rfl) (AO.nil (AX.seq (AX.cond rfl (fun b7 => ?_) (fun b7 => ?_)))))
   ·have e4 := bif_t b7 b6
    refine AX.skip (AX.seq (AX.block (AX.sr ?_)))
    obtain ⟨c8, e5⟩ := chk_some e4
    obtain ⟨b3, j2, a8, c9⟩ := tget t_a0 (lt_len rfl (inR_lt c8))
    refine AO.p rfl (s_indexV (q := off p_a0 + a1.toNat) underlying24 sizeOf27 rfl ((a4.view v_a0).p c9) rfl c8 (o1 _ _)) (AO.c rfl (s_load isAgg27 rfl ((a4.view v_a0).get _ _ c9)) (AO.a rfl rfl (AO.nil (DR.startS [false, false, false, false, false, false, false, false, false, false, false, false, false, false, false, false, false, true, false] mix (by kernel_rfl) (fun hst => ?_)))))
    refine DR.p rfl rfl (p_move rfl) (DR.p rfl rfl (p_move rfl) ?_)
    obtain ⟨b8, e6⟩ := chk_some e5
    refine DR.p rfl rfl (s_indexV (q := off b3 + 0) underlying27 sizeOf2 rfl ((TVw.at (a4.tview w_a0) a8).p (ints_get (lt_len rfl (inR_lt b8)))) rfl b8 (o1 _ _)) (DR.r rfl rfl (r_load rfl isAgg2) (one_read ((TVw.at (a4.tview w_a0) a8).get _ _ (ints_get (lt_len rfl (inR_lt b8)))) (.of_flat0 rfl)) (DR.p rfl rfl (p_move rfl) ?_))
    obtain ⟨b9, e7⟩ := chk_some e6
    refine DR.p rfl rfl (s_indexV (q := off b3 + 1) underlying27 sizeOf2 rfl ((TVw.at (a4.tview w_a0) a8).p (ints_get (lt_len rfl (inR_lt b9)))) rfl b9 (o1 _ _)) (DR.r rfl rfl (r_load rfl isAgg2) (one_read ((TVw.at (a4.tview w_a0) a8).get _ _ (ints_get (lt_len rfl (inR_lt b9)))) (.of_flat0 rfl)) (DR.p rfl rfl (p_min rfl rfl rfl) (DR.p rfl rfl (p_move rfl) ?_)))
    obtain ⟨c0, e8⟩ := chk_some e7
    refine DR.p rfl rfl (s_indexV (q := off b3 + 0) underlying27 sizeOf2 rfl ((TVw.at (a4.tview w_a0) a8).p (ints_get (lt_len rfl (inR_lt c0)))) rfl c0 (o1 _ _)) (DR.r rfl rfl (r_load rfl isAgg2) (one_read ((TVw.at (a4.tview w_a0) a8).get _ _ (ints_get (lt_len rfl (inR_lt c0)))) (.of_flat0 rfl)) (DR.p rfl rfl (p_move rfl) ?_))
    obtain ⟨c1, e9⟩ := chk_some e8
    refine DR.p rfl rfl (s_indexV (q := off b3 + 1) underlying27 sizeOf2 rfl ((TVw.at (a4.tview w_a0) a8).p (ints_get (lt_len rfl (inR_lt c1)))) rfl c1 (o1 _ _)) (DR.r rfl rfl (r_load rfl isAgg2) (one_read ((TVw.at (a4.tview w_a0) a8).get _ _ (ints_get (lt_len rfl (inR_lt c1)))) (.of_flat0 rfl)) (DR.p rfl rfl (p_max rfl rfl rfl) ?_))
    obtain ⟨j3, a9, f0, f1, f2⟩ := a4.new (AObj.row false (ints [(if rd (rw_ a0 a1.toNat) 1 < rd (rw_ a0 a1.toNat) 0 then rd (rw_ a0 a1.toNat) 1 else rd (rw_ a0 a1.toNat) 0), (if rd (rw_ a0 a1.toNat) 1 > rd (rw_ a0 a1.toNat) 0 then rd (rw_ a0 a1.toNat) 1 else rd (rw_ a0 a1.toNat) 0)]))
    refine DR.a rfl rfl f0 f1 (a_buildInts (vs := [(0, .int .i64 (if rd (rw_ a0 a1.toNat) 1 < rd (rw_ a0 a1.toNat) 0 then rd (rw_ a0 a1.toNat) 1 else rd (rw_ a0 a1.toNat) 0)), (1, .int .i64 (if rd (rw_ a0 a1.toNat) 1 > rd (rw_ a0 a1.toNat) 0 then rd (rw_ a0 a1.toNat) 1 else rd (rw_ a0 a1.toNat) 0))]) (xs := [(if rd (rw_ a0 a1.toNat) 1 < rd (rw_ a0 a1.toNat) 0 then rd (rw_ a0 a1.toNat) 1 else rd (rw_ a0 a1.toNat) 0), (if rd (rw_ a0 a1.toNat) 1 > rd (rw_ a0 a1.toNat) 0 then rd (rw_ a0 a1.toNat) 1 else rd (rw_ a0 a1.toNat) 0)]) underlying27 sizeOf2 zeroValue2 rfl rfl (by decide) rfl rfl) ?_
    obtain ⟨j4, j5, f3, f4, f5⟩ := f2.new (AObj.row false (tcells ([((some (Addr.mk a9 0 none)), 2, [(if rd (rw_ a0 a1.toNat) 1 < rd (rw_ a0 a1.toNat) 0 then rd (rw_ a0 a1.toNat) 1 else rd (rw_ a0 a1.toNat) 0), (if rd (rw_ a0 a1.toNat) 1 > rd (rw_ a0 a1.toNat) 0 then rd (rw_ a0 a1.toNat) 1 else rd (rw_ a0 a1.toNat) 0)])])))
    have c2 := (f5.front 1 rfl).tone (some (Addr.mk a9 0 none)) 2 [(if rd (rw_ a0 a1.toNat) 1 < rd (rw_ a0 a1.toNat) 0 then rd (rw_ a0 a1.toNat) 1 else rd (rw_ a0 a1.toNat) 0), (if rd (rw_ a0 a1.toNat) 1 > rd (rw_ a0 a1.toNat) 0 then rd (rw_ a0 a1.toNat) 1 else rd (rw_ a0 a1.toNat) 0)] rfl
    refine DR.a rfl rfl f3 f4 (a_buildT1 (X := [((some (Addr.mk a9 0 none)), 2, [(if rd (rw_ a0 a1.toNat) 1 < rd (rw_ a0 a1.toNat) 0 then rd (rw_ a0 a1.toNat) 1 else rd (rw_ a0 a1.toNat) 0), (if rd (rw_ a0 a1.toNat) 1 > rd (rw_ a0 a1.toNat) 0 then rd (rw_ a0 a1.toNat) 1 else rd (rw_ a0 a1.toNat) 0)])]) (n := 2) rfl underlying24 sizeOf27 zeroValue27 rfl rfl) ?_
    obtain ⟨f6, f7⟩ := chk_some e9
    obtain ⟨d0, d1, j6, d2, f8, f9⟩ := c2.app (k := 2) rfl b5 (tcells ([((some (Addr.mk a9 0 none)), 2, [(if rd (rw_ a0 a1.toNat) 1 < rd (rw_ a0 a1.toNat) 0 then rd (rw_ a0 a1.toNat) 1 else rd (rw_ a0 a1.toNat) 0), (if rd (rw_ a0 a1.toNat) 1 > rd (rw_ a0 a1.toNat) 0 then rd (rw_ a0 a1.toNat) 1 else rd (rw_ a0 a1.toNat) 0)])])) 1 (tc_len1 rfl rfl)
    have g0 := f8.cellsEq (k := 2) (us' := tcells (a7 ++ [((some (Addr.mk a9 0 none)), 2, [(if rd (rw_ a0 a1.toNat) 1 < rd (rw_ a0 a1.toNat) 0 then rd (rw_ a0 a1.toNat) 1 else rd (rw_ a0 a1.toNat) 0), (if rd (rw_ a0 a1.toNat) 1 > rd (rw_ a0 a1.toNat) 0 then rd (rw_ a0 a1.toNat) 1 else rd (rw_ a0 a1.toNat) 0)])])) (tcells_app _ _).symm rfl
    have g1 : Sb d0 ((a2 ++ [[(if rd (rw_ a0 a1.toNat) 1 < rd (rw_ a0 a1.toNat) 0 then rd (rw_ a0 a1.toNat) 1 else rd (rw_ a0 a1.toNat) 0), (if rd (rw_ a0 a1.toNat) 1 > rd (rw_ a0 a1.toNat) 0 then rd (rw_ a0 a1.toNat) 1 else rd (rw_ a0 a1.toNat) 0)]]).length) d1 1 := (show a2.length + 1 = (a2 ++ [[(if rd (rw_ a0 a1.toNat) 1 < rd (rw_ a0 a1.toNat) 0 then rd (rw_ a0 a1.toNat) 1 else rd (rw_ a0 a1.toNat) 0), (if rd (rw_ a0 a1.toNat) 1 > rd (rw_ a0 a1.toNat) 0 then rd (rw_ a0 a1.toNat) 1 else rd (rw_ a0 a1.toNat) 0)]]).length from len_app (a := a2) (b := [[(if rd (rw_ a0 a1.toNat) 1 < rd (rw_ a0 a1.toNat) 0 then rd (rw_ a0 a1.toNat) 1 else rd (rw_ a0 a1.toNat) 0), (if rd (rw_ a0 a1.toNat) 1 > rd (rw_ a0 a1.toNat) 0 then rd (rw_ a0 a1.toNat) 1 else rd (rw_ a0 a1.toNat) 0)]]) rfl rfl) ▸ f9
    have g2 := g0.front 0 rfl
    have g3 := (g2.front 3 rfl).tmerge
    have g4 := g3.drop 1 rfl
    refine DR.w rfl rfl (s_app (by_ := 24) (us := tcells a7) (vs := tcells ([((some (Addr.mk a9 0 none)), 2, [(if rd (rw_ a0 a1.toNat) 1 < rd (rw_ a0 a1.toNat) 0 then rd (rw_ a0 a1.toNat) 1 else rd (rw_ a0 a1.toNat) 0), (if rd (rw_ a0 a1.toNat) 1 > rd (rw_ a0 a1.toNat) 0 then rd (rw_ a0 a1.toNat) 1 else rd (rw_ a0 a1.toNat) 0)])])) underlying24 underlying24 typeInfo27 sizeOf27 zeroValue27 rfl rfl rfl rfl rfl rfl rfl (c2.buf (k := 2) rfl b5 (tc_len1 b4 rfl)) (c2.oview (k := 1) rfl (Sb.lit (n := 1) (by decide)) (tc_len1 rfl rfl)) (tc_len1 rfl rfl) tcells_one f6 d2 (show a2.length + 1 = (a2 ++ [[(if rd (rw_ a0 a1.toNat) 1 < rd (rw_ a0 a1.toNat) 0 then rd (rw_ a0 a1.toNat) 1 else rd (rw_ a0 a1.toNat) 0), (if rd (rw_ a0 a1.toNat) 1 > rd (rw_ a0 a1.toNat) 0 then rd (rw_ a0 a1.toNat) 1 else rd (rw_ a0 a1.toNat) 0)]]).length from len_app (a := a2) (b := [[(if rd (rw_ a0 a1.toNat) 1 < rd (rw_ a0 a1.toNat) 0 then rd (rw_ a0 a1.toNat) 1 else rd (rw_ a0 a1.toNat) 0), (if rd (rw_ a0 a1.toNat) 1 > rd (rw_ a0 a1.toNat) 0 then rd (rw_ a0 a1.toNat) 1 else rd (rw_ a0 a1.toNat) 0)]]) rfl rfl)) (appR_len d2) ?_
    refine DR.p rfl rfl (p_assign rfl) (DR.nil 19 [] hst (by kernel_rfl) trivial (AX.region ?_))
    obtain ⟨g5, g6⟩ := chk_some f7
    refine AO.p rfl (p_addE rfl rfl g5) (AO.m rfl rfl (AO.nil ?_))
    obtain rfl := some_inj g6
    have g7 := g4.front 0 rfl
    have g8 := g7.front 1 rfl
    exact ⟨((a2 ++ [[(if rd (rw_ a0 a1.toNat) 1 < rd (rw_ a0 a1.toNat) 0 then rd (rw_ a0 a1.toNat) 1 else rd (rw_ a0 a1.toNat) 0), (if rd (rw_ a0 a1.toNat) 1 > rd (rw_ a0 a1.toNat) 0 then rd (rw_ a0 a1.toNat) 1 else rd (rw_ a0 a1.toNat) 0)]]), a1 + 1), c7, (a2 ++ [[(if rd (rw_ a0 a1.toNat) 1 < rd (rw_ a0 a1.toNat) 0 then rd (rw_ a0 a1.toNat) 1 else rd (rw_ a0 a1.toNat) 0), (if rd (rw_ a0 a1.toNat) 1 > rd (rw_ a0 a1.toNat) 0 then rd (rw_ a0 a1.toNat) 1 else rd (rw_ a0 a1.toNat) 0)]]), (a1 + 1), d0, d1, (a7 ++ [((some (Addr.mk a9 0 none)), 2, [(if rd (rw_ a0 a1.toNat) 1 < rd (rw_ a0 a1.toNat) 0 then rd (rw_ a0 a1.toNat) 1 else rd (rw_ a0 a1.toNat) 0), (if rd (rw_ a0 a1.toNat) 1 > rd (rw_ a0 a1.toNat) 0 then rd (rw_ a0 a1.toNat) 1 else rd (rw_ a0 a1.toNat) 0)])]), rfl, g8, (trows_apps b4 rfl), (TSb.app c6 (TSb.one (sb_len rfl (Sb.lit (n := 2) (by decide))))), g1, Sub.k4 rfl rfl rfl rfl (Sub.nil _)⟩
   ·have g9 := bif_f b7 b6
    refine AX.exit ?_
    obtain rfl := some_inj g9
    have h0 := a4.front 1 rfl
    have h1 := h0.front 1 rfl
    exact ⟨a2, b1, b2, a7, c7, h1, b4, c6, b5, Sub.k1 rfl (Sub.nil _)⟩
 ·rintro t' h2 ⟨a5, a6, b0, a3, rfl, h3, h4, h5, d3, h6⟩
  refine ⟨_, h6, ?_⟩
  refine AX.sr (AO.m rfl rfl ?_)
  have h7 := h3.front 1 rfl
  have c3 := h7.front 1 rfl
  obtain ⟨c4, h8, h9⟩ := bnd_some e0
  obtain ⟨_, j7, i0, i1, rfl, i2, d4, i3, i4⟩ := W_slices_SortFunc_SSint64_Sint64__slices_Compare_Sint64_int64 fu h2 a6 a5.length b0 a3 a5 rfl d3 h4 h5 (St.fnodup (A := [oseg a6 (tcells a3), tseg a3]) c3) (St.fmem (A := [oseg a6 (tcells a3), tseg a3]) c3) c4 h8
  have i5 := St.callM (A := [oseg a6 (tcells a3), tseg a3]) c3 i2 (fun j h => h)
  refine AO.c rfl (o_call (vs := [.slice a6 a5.length b0, .func (.func 73) #[] #[]]) rfl Tryz.call72 i0) (AO.nil (AX.sr (AO.m rfl rfl (AO.a rfl rfl (AO.nil (AX.ret ?_))))))
  obtain rfl := some_inj h9
  have i6 := i5.front 1 rfl
  have i7 := i6.front 1 rfl
  exact ⟨.inr rfl, _, res1 rfl (rv_tmp rfl), a6, b0, i1, (by rw [show List.length c4 = a5.length from d4]), i7, (by rw [show List.length c4 = a5.length from d4]; exact d3), i3, i4⟩
end Go.Proofs.YtdafmafigcljkaaGreat
