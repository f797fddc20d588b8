
/-
 The program computes that, printed by a program. No condition.
-/
import Derived.Test.YtdafmafigcljkaaGreatDTf
import Derived.Test.YtdafmafigcljkaaGreatWSb
import Derived.Test.YtdafmafigcljkaaGreatWD
import Derived.Test.YtdafmafigcljkaaGreatWG
import Derived.Test.YtdafmafigcljkaaGreatWMc
import Derived.Test.YtdafmafigcljkaaGreatProg
import Derived.KernelRfl
namespace Go.Proofs.YtdafmafigcljkaaGreat
open Go Go.RowKit Am Go.Proofs.Tryz
set_option linter.unusedVariables false
set_option linter.unusedSimpArgs false
set_option maxRecDepth 20000
set_option maxHeartbeats 4000000 in
theorem W_laws_big (fu : Nat) (H : AHeap) (F : Sg) (p_a0 : Option Addr) (c_a0 : Nat) (a0 : List Int) (q_a0 : PV F p_a0 c_a0 a0) (hn : (([F] : List Sg).flatten.map (·.1)).Nodup) (ho : ∀ x ∈ ([F] : List Sg).flatten, x.1 < H.length ∧ hget H x.1 = x.2) (r0 : Bool) (hd : D_laws_big fu a0 = some r0) : ∃ v G', ACall Tryz.prog 4 [.slice p_a0 a0.length c_a0] H v G' ∧ ∃ (F' : Sg), (v = .bool r0) ∧ St (([F] : List Sg).flatten.map (·.1)) H G' [F'] ∧ Pin F' F := by
 refine ACall.bodyX (args := [.slice p_a0 a0.length c_a0]) (N := 6) [(0, .slice p_a0 a0.length c_a0)] (fun v G' => ∃ (F' : Sg), (v = .bool r0) ∧ St (([F] : List Sg).flatten.map (·.1)) H G' [F'] ∧ Pin F' F) Tryz.func4 rfl rfl rfl rfl ?_
 unfold D_laws_big at hd
 have S0 := St.initF hn ho
 generalize hM0 : (([F] : List Sg).flatten.map (·.1)) = M0 at S0 ⊢
 refine AX.sr (AO.a rfl rfl (AO.nil (AX.sr (AO.m rfl rfl (AO.p rfl (p_len_slice rfl underlying22) (AO.p rfl (p_gtr rfl rfl) (AO.a rfl rfl (AO.nil (AX.ret ?_)))))))))
 obtain rfl := some_inj hd
 have a1 := S0.front 0 rfl
 exact ⟨.inr rfl, _, res1 rfl (rv_tmp rfl), F, rfl, a1, (Pin.refl F)⟩
set_option maxHeartbeats 4000000 in
theorem W_laws_FnAdders (fu : Nat) (H : AHeap) (F : Sg) (p_a0 : Option Addr) (c_a0 : Nat) (a0 : List Int) (q_a0 : PV F p_a0 c_a0 a0) (hn : (([F] : List Sg).flatten.map (·.1)).Nodup) (ho : ∀ x ∈ ([F] : List Sg).flatten, x.1 < H.length ∧ hget H x.1 = x.2) (r0 : Bool) (hd : D_laws_FnAdders fu a0 = some r0) : ∃ v G', ACall Tryz.prog 3 [.slice p_a0 a0.length c_a0] H v G' ∧ ∃ (F' : Sg), (v = .bool r0) ∧ St (([F] : List Sg).flatten.map (·.1)) H G' [F'] ∧ Pin F' F := by
 refine ACall.bodyX (args := [.slice p_a0 a0.length c_a0]) (N := 302) [(0, .slice p_a0 a0.length c_a0)] (fun v G' => ∃ (F' : Sg), (v = .bool r0) ∧ St (([F] : List Sg).flatten.map (·.1)) H G' [F'] ∧ Pin F' F) Tryz.func3 rfl rfl rfl rfl ?_
 unfold D_laws_FnAdders at hd
 have S0 := St.initF hn ho
 generalize hM0 : (([F] : List Sg).flatten.map (·.1)) = M0 at S0 ⊢
 refine AX.sr (AO.a rfl rfl (AO.nil (AX.seq (AX.sr (AO.m rfl rfl ?_)))))
 have u1 := S0.front 0 rfl
 have h6 : St M0 H H [F] := u1
 obtain ⟨u2, u3, m0⟩ := bnd_some hd
 obtain ⟨_, m1, u4, c9, rfl, u5, b0⟩ := W_laws_big fu H F p_a0 c_a0 a0 q_a0 (St.fnodup (A := [F]) h6) (St.fmem (A := [F]) h6) u2 u3
 have m2 := St.callM (A := [F]) h6 u5 (fun j h => h)
 refine AO.c rfl (o_call (vs := [.slice p_a0 a0.length c_a0]) rfl Tryz.call4 u4) (AO.nil (AX.cond rfl (fun h7 => ?_) (fun h7 => ?_)))
 ·have u6 := bif_t h7 m0
  refine AX.sr (AO.a rfl rfl (AO.nil (AX.ret ?_)))
  obtain rfl := some_inj u6
  have u7 := m2.front 0 rfl
  exact ⟨.inr rfl, _, res1 rfl (rv_tmp rfl), c9, rfl, u7, ((Pin.refl F).mono b0)⟩
 ·have u8 := bif_f h7 m0
  refine AX.skip (AX.sr (AO.m rfl rfl ?_))
  have u9 := m2.front 0 rfl
  have h8 : St M0 H m1 [c9] := u9
  obtain ⟨⟨a1, a3⟩, v0, v1⟩ := bnd_some u8
  obtain ⟨_, v2, v3, a2, a4, a8, a5, rfl, v4, b6, a6, b7, b8⟩ := W_spec_DrawStrongAdder fu m1 c9 p_a0 c_a0 a0 (q_a0.mono b0) (St.fnodup (A := [c9]) h8) (St.fmem (A := [c9]) h8) a1 a3 v0
  have h9 := St.callM (A := [c9]) h8 v4 (fun j h => h)
  refine AO.c rfl (o_call (vs := [.slice p_a0 a0.length c_a0]) rfl Tryz.call5 v3) (AO.m rfl rfl (AO.p rfl (p_extract rfl rfl) (AO.p rfl (p_extract rfl rfl) (AO.a rfl rfl (AO.a rfl rfl (AO.nil (AX.sr (AO.m rfl rfl (AO.m rfl rfl ?_)))))))))
  obtain ⟨⟨c3, m3⟩, v5, v6⟩ := bnd_some v1
  obtain ⟨_, v7, v8, d0, e2, rfl, v9, m4⟩ := W_impl_StrongAdder fu v2 a1 a2 a4 a8 a3 a6 (h9.oview (k := 0) rfl b6 (tc_len1 a6 rfl)) (h9.oviewT (k := 1) rfl b7) c3 m3 v5
  have i0 := h9.call v9
  refine AO.c rfl (o_call (vs := [.int .i64 a1, .slice a2 a3.length a4]) rfl Tryz.call6 v8) (AO.m rfl rfl (AO.p rfl (p_extract rfl rfl) (AO.p rfl (p_extract rfl rfl) (AO.a rfl rfl (AO.a rfl rfl (AO.nil (AX.sr (AO.m rfl rfl (AO.m rfl rfl ?_)))))))))
  obtain ⟨⟨i1, w0⟩, w1, w2⟩ := bnd_some v6
  obtain ⟨_, w3, w4, m5, m6, rfl, w5, w6⟩ := W_spec_StrongAdder fu v7 a1 a2 a4 a8 a3 a6 (i0.oview (k := 1) rfl b6 (tc_len1 a6 rfl)) (i0.oviewT (k := 2) rfl b7) i1 w0 w1
  have i2 := i0.call w5
  refine AO.c rfl (o_call (vs := [.int .i64 a1, .slice a2 a3.length a4]) rfl Tryz.call7 w4) (AO.m rfl rfl (AO.p rfl (p_extract rfl rfl) (AO.p rfl (p_extract rfl rfl) (AO.a rfl rfl (AO.a rfl rfl (AO.nil (AX.sr (AO.m rfl rfl (AO.m rfl rfl ?_)))))))))
  obtain ⟨⟨b1, e3⟩, w7, w8⟩ := bnd_some w2
  obtain ⟨_, w9, x0, b3, c4, rfl, x1, m7⟩ := W_impl_FirstAdder fu w3 a1 a2 a4 a8 a3 a6 (i2.oview (k := 2) rfl b6 (tc_len1 a6 rfl)) (i2.oviewT (k := 3) rfl b7) b1 e3 w7
  have i3 := i2.call x1
  refine AO.c rfl (o_call (vs := [.int .i64 a1, .slice a2 a3.length a4]) rfl Tryz.call8 x0) (AO.m rfl rfl (AO.p rfl (p_extract rfl rfl) (AO.p rfl (p_extract rfl rfl) (AO.a rfl rfl (AO.a rfl rfl (AO.nil (AX.sr (AO.m rfl rfl (AO.m rfl rfl ?_)))))))))
  obtain ⟨⟨i4, x2⟩, x3, x4⟩ := bnd_some w8
  obtain ⟨_, m8, x5, m9, n0, rfl, x6, x7⟩ := W_spec_FirstAdder fu w9 a1 a2 a4 a8 a3 a6 (i3.oview (k := 3) rfl b6 (tc_len1 a6 rfl)) (i3.oviewT (k := 4) rfl b7) i4 x2 x3
  have b9 := i3.call x6
  refine AO.c rfl (o_call (vs := [.int .i64 a1, .slice a2 a3.length a4]) rfl Tryz.call9 x5) (AO.m rfl rfl (AO.p rfl (p_extract rfl rfl) (AO.p rfl (p_extract rfl rfl) (AO.a rfl rfl (AO.a rfl rfl (AO.nil (AX.seq ?_)))))))
  obtain ⟨x8, n1, n2⟩ := bnd_some x4
  refine AX.cut (fun t' H' => ∃ (i5 : Bool), i5 = x8 ∧ St M0 H H' [a5, oseg a2 (tcells a8), tseg a8, oseg d0 (ints c3), oseg b3 (ints b1)] ∧ Pin a5 F ∧ PV a5 p_a0 c_a0 a0 ∧ Am.Sub [(0, .slice p_a0 a0.length c_a0), (3, .int .i64 a1), (4, .slice a2 a3.length a4), (5, .slice d0 c3.length e2), (6, .int .i64 m3), (9, .slice b3 b1.length c4), (10, .int .i64 e3), (101, .bool i5)] t') ?_ ?_
  ·skip
   refine AX.region (AO.m rfl rfl (AO.m rfl rfl (AO.p rfl (p_neq rfl rfl) (AO.m rfl rfl (AO.cases (d := 85) rfl (fun i6 => ?_) (fun i6 => ?_))))))
   ·have x9 := bif_t i6 n1
    refine AO.gn rfl rfl rfl (AO.gn rfl rfl rfl (AO.gn rfl rfl rfl (AO.gn rfl rfl rfl (AO.p rfl (p_pickT rfl rfl) (AO.m rfl rfl (AO.gn rfl rfl rfl (AO.gn rfl rfl rfl (AO.gn rfl rfl rfl (AO.p rfl (p_pickT rfl rfl) (AO.m rfl rfl (AO.gn rfl rfl rfl (AO.gn rfl rfl rfl (AO.gn rfl rfl rfl ?_)))))))))))))
    refine AO.gn rfl rfl rfl (AO.p rfl (p_pickT rfl rfl) (AO.nil ?_))
    have y0 := b9.front 1 rfl
    have y1 := y0.front 3 rfl
    have y2 := y1.front 5 rfl
    have y3 := y2.front 5 rfl
    have y4 := y3.front 6 rfl
    have y5 := y4.keep 5
    exact ⟨true, (some_inj x9), y5, (((Pin.refl F).mono b0).mono b8), ((q_a0.mono b0).mono b8), Sub.k8 rfl rfl rfl rfl rfl rfl rfl rfl (Sub.nil _)⟩
   ·have y6 := bif_f i6 n1
    refine AO.gp rfl rfl rfl (p_move rfl) (AO.gp rfl rfl rfl (p_move rfl) ?_)
    obtain ⟨y7, y8, n3⟩ := bnd_some y6
    refine AO.gc rfl rfl rfl (o_call (vs := [.slice d0 c3.length e2, .slice m5 i1.length m6]) rfl Tryz.call10 (W_laws_likeInts fu m8 d0 e2 c3 (b9.oview (k := 3) rfl m4 (ints_len1 rfl)) m5 m6 i1 (b9.oview (k := 2) rfl w6 (ints_len1 rfl)) y7 y8)) (AO.gp rfl rfl rfl (p_not rfl) (AO.p rfl (p_pickF rfl rfl) (AO.m rfl rfl (AO.cases (d := 91) rfl (fun i7 => ?_) (fun i7 => ?_)))))
    ·have y9 := bif_t i7 n3
     refine AO.gn rfl rfl rfl (AO.gn rfl rfl rfl (AO.gn rfl rfl rfl (AO.p rfl (p_pickT rfl rfl) (AO.m rfl rfl (AO.gn rfl rfl rfl (AO.gn rfl rfl rfl (AO.gn rfl rfl rfl (AO.gn rfl rfl rfl (AO.p rfl (p_pickT rfl rfl) (AO.nil ?_))))))))))
     have z0 := b9.front 1 rfl
     have z1 := z0.front 3 rfl
     have z2 := z1.front 5 rfl
     have z3 := z2.front 5 rfl
     have z4 := z3.front 6 rfl
     have z5 := z4.keep 5
     exact ⟨true, (some_inj y9), z5, (((Pin.refl F).mono b0).mono b8), ((q_a0.mono b0).mono b8), Sub.k8 rfl rfl rfl rfl rfl rfl rfl rfl (Sub.nil _)⟩
    ·have n4 := bif_f i7 n3
     refine AO.gp rfl rfl rfl (p_move rfl) (AO.gp rfl rfl rfl (p_move rfl) (AO.gp rfl rfl rfl (p_neq rfl rfl) (AO.p rfl (p_pickF rfl rfl) (AO.m rfl rfl (AO.cases (d := 96) rfl (fun i8 => ?_) (fun i8 => ?_))))))
     ·have z6 := bif_t i8 n4
      refine AO.gn rfl rfl rfl (AO.gn rfl rfl rfl (AO.gn rfl rfl rfl (AO.gn rfl rfl rfl (AO.p rfl (p_pickT rfl rfl) (AO.nil ?_)))))
      have z7 := b9.front 1 rfl
      have z8 := z7.front 3 rfl
      have z9 := z8.front 5 rfl
      have A0 := z9.front 5 rfl
      have A1 := A0.front 6 rfl
      have A2 := A1.keep 5
      exact ⟨true, (some_inj z6), A2, (((Pin.refl F).mono b0).mono b8), ((q_a0.mono b0).mono b8), Sub.k8 rfl rfl rfl rfl rfl rfl rfl rfl (Sub.nil _)⟩
     ·have A3 := bif_f i8 n4
      refine AO.gp rfl rfl rfl (p_move rfl) (AO.gp rfl rfl rfl (p_move rfl) ?_)
      obtain ⟨n5, A4, A5⟩ := bnd_some A3
      refine AO.gc rfl rfl rfl (o_call (vs := [.slice b3 b1.length c4, .slice m9 i4.length n0]) rfl Tryz.call10 (W_laws_likeInts fu m8 b3 c4 b1 (b9.oview (k := 1) rfl m7 (ints_len1 rfl)) m9 n0 i4 (b9.oview (k := 0) rfl x7 (ints_len1 rfl)) n5 A4)) (AO.gp rfl rfl rfl (p_not rfl) (AO.p rfl (p_pickF rfl rfl) (AO.nil ?_)))
      have A6 := b9.front 1 rfl
      have A7 := A6.front 3 rfl
      have A8 := A7.front 5 rfl
      have A9 := A8.front 5 rfl
      have B0 := A9.front 6 rfl
      have B1 := B0.keep 5
      exact ⟨(!n5), (some_inj A5), B1, (((Pin.refl F).mono b0).mono b8), ((q_a0.mono b0).mono b8), Sub.k8 rfl rfl rfl rfl rfl rfl rfl rfl (Sub.nil _)⟩
  ·rintro t' n6 ⟨i5, rfl, c0, f7, n7, B2⟩
   refine AX.sub B2 (AX.cond rfl (fun i9 => ?_) (fun i9 => ?_))
   ·have B3 := bif_t i9 n2
    refine AX.sr (AO.a rfl rfl (AO.nil (AX.ret ?_)))
    obtain rfl := some_inj B3
    have B4 := c0.front 0 rfl
    have B5 := B4.keep 1
    exact ⟨.inr rfl, _, res1 rfl (rv_tmp rfl), a5, rfl, B5, f7⟩
   ·have B6 := bif_f i9 n2
    refine AX.skip (AX.seq (AX.sr (AO.m rfl rfl (AO.p rfl (p_eql rfl rfl) (AO.nil ?_)))))
    obtain ⟨n8, n9, o0⟩ := bnd_some B6
    refine AX.cutS (fun t' H' => .inl () = n8 ∧ St M0 H H' [a5, oseg a2 (tcells a8), tseg a8, oseg b3 (ints b1)] ∧ Pin a5 F ∧ PV a5 p_a0 c_a0 a0 ∧ Am.Sub [(0, .slice p_a0 a0.length c_a0), (3, .int .i64 a1), (4, .slice a2 a3.length a4), (9, .slice b3 b1.length c4), (10, .int .i64 e3)] t') ?_ ?_
    ·skip
     refine AX.cond rfl (fun j0 => ?_) (fun j0 => ?_)
     ·have B7 := bif_t j0 n9
      refine AX.sr (AO.m rfl rfl (AO.m rfl rfl (AO.m rfl rfl ?_)))
      obtain ⟨⟨o1, o2⟩, B8, B9⟩ := bnd_some B7
      refine AO.c rfl (o_call (vs := [.int .i64 a1, .slice a2 a3.length a4, .slice d0 c3.length e2]) rfl Tryz.call11 (W_impl_IsAdder fu n6 a1 a2 a4 a8 a3 a6 (c0.oview (k := 1) rfl b6 (tc_len1 a6 rfl)) (c0.oviewT (k := 2) rfl b7) d0 e2 c3 (c0.oview (k := 3) rfl m4 (ints_len1 rfl)) o1 o2 B8)) (AO.m rfl rfl (AO.p rfl (p_extract rfl rfl) (AO.p rfl (p_extract rfl rfl) (AO.a rfl rfl (AO.a rfl rfl (AO.nil (AX.sr (AO.m rfl rfl (AO.m rfl rfl (AO.m rfl rfl ?_))))))))))
      obtain ⟨C0, C1⟩ := chk_some B9
      refine AO.p rfl (p_subE rfl rfl C0) ?_
      obtain ⟨⟨j1, o3⟩, C2, C3⟩ := bnd_some C1
      obtain ⟨_, o4, C4, o5, o6, C5, rfl, C6, C7, o7, C8⟩ := W_impl_MultipleOf fu n6 a1 a2 a4 a8 a3 a6 (c0.oview (k := 1) rfl b6 (tc_len1 a6 rfl)) (c0.oviewT (k := 2) rfl b7) (a1 - 1) j1 o3 C2
      have d1 := c0.call C6
      refine AO.c rfl (o_call (vs := [.int .i64 a1, .slice a2 a3.length a4, .int .i64 (a1 - 1)]) rfl Tryz.call12 C4) (AO.m rfl rfl (AO.p rfl (p_extract rfl rfl) (AO.p rfl (p_extract rfl rfl) (AO.a rfl rfl (AO.a rfl rfl (AO.nil (AX.sr (AO.m rfl rfl (AO.m rfl rfl (AO.m rfl rfl ?_))))))))))
      obtain ⟨⟨o8, o9⟩, C9, p0⟩ := bnd_some C3
      refine AO.c rfl (o_call (vs := [.int .i64 a1, .slice a2 a3.length a4, .slice o5 j1.length o6]) rfl Tryz.call13 (W_impl_AreOrthogonal fu o4 a1 a2 a4 a8 a3 a6 (d1.oview (k := 3) rfl b6 (tc_len1 a6 rfl)) (d1.oviewT (k := 4) rfl b7) o5 o6 C5 j1 o7 (d1.oview (k := 0) rfl C7 (tc_len1 o7 rfl)) (d1.oviewT (k := 1) rfl C8) o8 o9 C9)) (AO.m rfl rfl (AO.p rfl (p_extract rfl rfl) (AO.p rfl (p_extract rfl rfl) (AO.a rfl rfl (AO.a rfl rfl (AO.nil (AX.cut (fun t' H' => o4 = H' ∧ Am.Sub [(0, .slice p_a0 a0.length c_a0), (3, .int .i64 a1), (4, .slice a2 a3.length a4), (9, .slice b3 b1.length c4), (10, .int .i64 e3), (147, .bool ((!decide (o2 = 0)) || ((!decide (o3 = 0)) || ((!decide (o9 = 0)) || ((!decide (e3 = 0)) || ((!o1) || (!o8)))))))] t') ?_ ?_)))))))
      ·skip
       refine AX.region (AO.m rfl rfl (AO.p rfl (p_neq rfl rfl) (AO.m rfl rfl (AO.cases (d := 128) rfl (fun c5 => ?_) (fun c5 => ?_)))))
       ·skip
        refine AO.gn rfl rfl rfl (AO.gn rfl rfl rfl (AO.p rfl (p_pickT rfl rfl) (AO.m rfl rfl (AO.gn rfl rfl rfl (AO.gn rfl rfl rfl (AO.p rfl (p_pickT rfl rfl) (AO.m rfl rfl (AO.gn rfl rfl rfl (AO.gn rfl rfl rfl (AO.p rfl (p_pickT rfl rfl) (AO.m rfl rfl (AO.gn rfl rfl rfl (AO.gn rfl rfl rfl ?_)))))))))))))
        refine AO.p rfl (p_pickT rfl rfl) (AO.m rfl rfl (AO.gn rfl rfl rfl (AO.gn rfl rfl rfl (AO.p rfl (p_pickT rfl rfl) (AO.nil ?_)))))
        exact ⟨rfl, Sub.k4 rfl rfl rfl rfl (Sub.k2 rfl (congrArg some (bool_eq (by simp only [c5, Bool.true_and, Bool.false_and, Bool.and_true, Bool.and_false, Bool.true_or, Bool.false_or, Bool.or_true, Bool.or_false, Bool.not_true, Bool.not_false, cond_true, cond_false]))) (Sub.nil _))⟩
       ·skip
        refine AO.gp rfl rfl rfl (p_move rfl) (AO.gp rfl rfl rfl (p_neq rfl rfl) (AO.p rfl (p_pickF rfl rfl) (AO.m rfl rfl (AO.cases (d := 132) rfl (fun d2 => ?_) (fun d2 => ?_)))))
        ·skip
         refine AO.gn rfl rfl rfl (AO.gn rfl rfl rfl (AO.p rfl (p_pickT rfl rfl) (AO.m rfl rfl (AO.gn rfl rfl rfl (AO.gn rfl rfl rfl (AO.p rfl (p_pickT rfl rfl) (AO.m rfl rfl (AO.gn rfl rfl rfl (AO.gn rfl rfl rfl (AO.p rfl (p_pickT rfl rfl) (AO.m rfl rfl (AO.gn rfl rfl rfl (AO.gn rfl rfl rfl ?_)))))))))))))
         refine AO.p rfl (p_pickT rfl rfl) (AO.nil ?_)
         exact ⟨rfl, Sub.k4 rfl rfl rfl rfl (Sub.k2 rfl (congrArg some (bool_eq (by simp only [c5, d2, Bool.true_and, Bool.false_and, Bool.and_true, Bool.and_false, Bool.true_or, Bool.false_or, Bool.or_true, Bool.or_false, Bool.not_true, Bool.not_false, cond_true, cond_false]))) (Sub.nil _))⟩
        ·skip
         refine AO.gp rfl rfl rfl (p_move rfl) (AO.gp rfl rfl rfl (p_neq rfl rfl) (AO.p rfl (p_pickF rfl rfl) (AO.m rfl rfl (AO.cases (d := 136) rfl (fun e4 => ?_) (fun e4 => ?_)))))
         ·skip
          refine AO.gn rfl rfl rfl (AO.gn rfl rfl rfl (AO.p rfl (p_pickT rfl rfl) (AO.m rfl rfl (AO.gn rfl rfl rfl (AO.gn rfl rfl rfl (AO.p rfl (p_pickT rfl rfl) (AO.m rfl rfl (AO.gn rfl rfl rfl (AO.gn rfl rfl rfl (AO.p rfl (p_pickT rfl rfl) (AO.nil ?_)))))))))))
          exact ⟨rfl, Sub.k4 rfl rfl rfl rfl (Sub.k2 rfl (congrArg some (bool_eq (by simp only [c5, d2, e4, Bool.true_and, Bool.false_and, Bool.and_true, Bool.and_false, Bool.true_or, Bool.false_or, Bool.or_true, Bool.or_false, Bool.not_true, Bool.not_false, cond_true, cond_false]))) (Sub.nil _))⟩
         ·skip
          refine AO.gp rfl rfl rfl (p_move rfl) (AO.gp rfl rfl rfl (p_neq rfl rfl) (AO.p rfl (p_pickF rfl rfl) (AO.m rfl rfl (AO.cases (d := 140) rfl (fun f8 => ?_) (fun f8 => ?_)))))
          ·skip
           refine AO.gn rfl rfl rfl (AO.gn rfl rfl rfl (AO.p rfl (p_pickT rfl rfl) (AO.m rfl rfl (AO.gn rfl rfl rfl (AO.gn rfl rfl rfl (AO.p rfl (p_pickT rfl rfl) (AO.nil ?_)))))))
           exact ⟨rfl, Sub.k4 rfl rfl rfl rfl (Sub.k2 rfl (congrArg some (bool_eq (by simp only [c5, d2, e4, f8, Bool.true_and, Bool.false_and, Bool.and_true, Bool.and_false, Bool.true_or, Bool.false_or, Bool.or_true, Bool.or_false, Bool.not_true, Bool.not_false, cond_true, cond_false]))) (Sub.nil _))⟩
          ·skip
           refine AO.gp rfl rfl rfl (p_move rfl) (AO.gp rfl rfl rfl (p_not rfl) (AO.p rfl (p_pickF rfl rfl) (AO.m rfl rfl (AO.cases (d := 144) rfl (fun j2 => ?_) (fun j2 => ?_)))))
           ·skip
            refine AO.gn rfl rfl rfl (AO.gn rfl rfl rfl (AO.p rfl (p_pickT rfl rfl) (AO.nil ?_)))
            exact ⟨rfl, Sub.k4 rfl rfl rfl rfl (Sub.k2 rfl (congrArg some (bool_eq (by simp only [c5, d2, e4, f8, j2, Bool.true_and, Bool.false_and, Bool.and_true, Bool.and_false, Bool.true_or, Bool.false_or, Bool.or_true, Bool.or_false, Bool.not_true, Bool.not_false, cond_true, cond_false]))) (Sub.nil _))⟩
           ·skip
            refine AO.gp rfl rfl rfl (p_move rfl) (AO.gp rfl rfl rfl (p_not rfl) (AO.p rfl (p_pickF rfl rfl) (AO.nil ?_)))
            exact ⟨rfl, Sub.k4 rfl rfl rfl rfl (Sub.k2 rfl (congrArg some (bool_eq (by simp only [c5, d2, e4, f8, j2, Bool.true_and, Bool.false_and, Bool.and_true, Bool.and_false, Bool.true_or, Bool.false_or, Bool.or_true, Bool.or_false, Bool.not_true, Bool.not_false, cond_true, cond_false]))) (Sub.nil _))⟩
      ·rintro t' _ ⟨rfl, D0⟩
       refine AX.sub D0 (AX.cond rfl (fun j3 => ?_) (fun j3 => ?_))
       ·have D1 := bif_t j3 p0
        refine AX.sr (AO.a rfl rfl (AO.nil (AX.ret ?_)))
        have D2 : _ = n8 := some_inj D1
        subst D2
        obtain rfl := some_inj o0
        have D3 := d1.front 2 rfl
        have D4 := D3.keep 1
        exact ⟨.inr rfl, _, res1 rfl (rv_tmp rfl), a5, rfl, D4, f7⟩
       ·have D5 := bif_f j3 p0
        refine AX.skip ?_
        have D6 := d1.front 6 rfl
        have D7 := D6.front 5 rfl
        have D8 := D7.front 5 rfl
        have D9 := D8.front 5 rfl
        have E0 := D9.keep 4
        exact ⟨(some_inj D5), E0, f7, n7, Sub.k4 rfl rfl rfl rfl (Sub.k1 rfl (Sub.nil _))⟩
     ·have E1 := bif_f j0 n9
      refine AX.skip ?_
      have E2 := c0.front 4 rfl
      have E3 := E2.front 3 rfl
      have E4 := E3.front 3 rfl
      have E5 := E4.front 3 rfl
      have E6 := E5.keep 4
      exact ⟨(some_inj E1), E6, f7, n7, Sub.k4 rfl rfl rfl rfl (Sub.k1 rfl (Sub.nil _))⟩
    ·rintro t' p1 ⟨rfl, d3, j4, p2, E7⟩
     refine ⟨_, E7, ?_⟩
     refine AX.seq (AX.sr (AO.m rfl rfl (AO.p rfl (p_eql rfl rfl) (AO.nil ?_))))
     obtain ⟨p3, p4, p5⟩ := bnd_some o0
     refine AX.cutS (fun t' H' => .inl () = p3 ∧ St M0 H H' [a5] ∧ Pin a5 F ∧ PV a5 p_a0 c_a0 a0 ∧ Am.Sub [(0, .slice p_a0 a0.length c_a0)] t') ?_ ?_
     ·skip
      refine AX.cond rfl (fun j5 => ?_) (fun j5 => ?_)
      ·have E8 := bif_t j5 p4
       refine AX.sr (AO.m rfl rfl (AO.m rfl rfl (AO.m rfl rfl ?_)))
       obtain ⟨⟨p6, p7⟩, E9, p8⟩ := bnd_some E8
       refine AO.c rfl (o_call (vs := [.int .i64 a1, .slice a2 a3.length a4, .slice b3 b1.length c4]) rfl Tryz.call11 (W_impl_IsAdder fu p1 a1 a2 a4 a8 a3 a6 (d3.oview (k := 1) rfl b6 (tc_len1 a6 rfl)) (d3.oviewT (k := 2) rfl b7) b3 c4 b1 (d3.oview (k := 3) rfl m7 (ints_len1 rfl)) p6 p7 E9)) (AO.m rfl rfl (AO.p rfl (p_extract rfl rfl) (AO.p rfl (p_extract rfl rfl) (AO.a rfl rfl (AO.a rfl rfl (AO.nil (AX.cut (fun t' H' => p1 = H' ∧ Am.Sub [(0, .slice p_a0 a0.length c_a0), (162, .bool ((!decide (p7 = 0)) || (!p6)))] t') ?_ ?_)))))))
       ·skip
        refine AX.region (AO.m rfl rfl (AO.p rfl (p_neq rfl rfl) (AO.m rfl rfl (AO.cases (d := 159) rfl (fun j6 => ?_) (fun j6 => ?_)))))
        ·skip
         refine AO.gn rfl rfl rfl (AO.gn rfl rfl rfl (AO.p rfl (p_pickT rfl rfl) (AO.nil ?_)))
         exact ⟨rfl, Sub.k2 rfl (congrArg some (bool_eq (by simp only [j6, Bool.true_and, Bool.false_and, Bool.and_true, Bool.and_false, Bool.true_or, Bool.false_or, Bool.or_true, Bool.or_false, Bool.not_true, Bool.not_false, cond_true, cond_false]))) (Sub.nil _)⟩
        ·skip
         refine AO.gp rfl rfl rfl (p_move rfl) (AO.gp rfl rfl rfl (p_not rfl) (AO.p rfl (p_pickF rfl rfl) (AO.nil ?_)))
         exact ⟨rfl, Sub.k2 rfl (congrArg some (bool_eq (by simp only [j6, Bool.true_and, Bool.false_and, Bool.and_true, Bool.and_false, Bool.true_or, Bool.false_or, Bool.or_true, Bool.or_false, Bool.not_true, Bool.not_false, cond_true, cond_false]))) (Sub.nil _)⟩
       ·rintro t' _ ⟨rfl, F0⟩
        refine AX.sub F0 (AX.cond rfl (fun j7 => ?_) (fun j7 => ?_))
        ·have F1 := bif_t j7 p8
         refine AX.sr (AO.a rfl rfl (AO.nil (AX.ret ?_)))
         have F2 : _ = p3 := some_inj F1
         subst F2
         obtain rfl := some_inj p5
         have F3 := d3.front 0 rfl
         have F4 := F3.keep 1
         exact ⟨.inr rfl, _, res1 rfl (rv_tmp rfl), a5, rfl, F4, j4⟩
        ·have F5 := bif_f j7 p8
         refine AX.skip ?_
         have F6 := d3.front 0 rfl
         have F7 := F6.keep 1
         exact ⟨(some_inj F5), F7, j4, p2, Sub.k1 rfl (Sub.nil _)⟩
      ·have F8 := bif_f j5 p4
       refine AX.skip ?_
       have F9 := d3.front 0 rfl
       have G0 := F9.keep 1
       exact ⟨(some_inj F8), G0, j4, p2, Sub.k1 rfl (Sub.nil _)⟩
     ·rintro t' p9 ⟨rfl, G1, q0, j8, G2⟩
      refine ⟨_, G2, ?_⟩
      refine AX.sr (AO.m rfl rfl ?_)
      have G3 := G1.front 0 rfl
      have j9 : St M0 H p9 [a5] := G3
      obtain ⟨c1, G4, G5⟩ := bnd_some p5
      obtain ⟨_, G6, G7, a7, rfl, G8, f9⟩ := W_spec_DrawFirstStrong fu p9 a5 p_a0 c_a0 a0 j8 (St.fnodup (A := [a5]) j9) (St.fmem (A := [a5]) j9) c1 G4
      have G9 := St.callM (A := [a5]) j9 G8 (fun j h => h)
      refine AO.c rfl (o_call (vs := [.slice p_a0 a0.length c_a0]) rfl Tryz.call14 G7) (AO.a rfl rfl (AO.nil (AX.sr (AO.m rfl rfl ?_))))
      obtain ⟨⟨d4, q1⟩, H0, H1⟩ := bnd_some G5
      obtain ⟨_, H2, H3, d5, e5, g0, rfl, H4, q2, g1, q3⟩ := W_impl_FirstStrong fu G6 c1 d4 q1 H0
      have H5 := G9.call H4
      refine AO.c rfl (o_call (vs := [.int .i64 c1]) rfl Tryz.call15 H3) (AO.m rfl rfl (AO.p rfl (p_extract rfl rfl) (AO.p rfl (p_extract rfl rfl) (AO.a rfl rfl (AO.a rfl rfl (AO.nil (AX.sr (AO.m rfl rfl ?_))))))))
      obtain ⟨⟨k0, H6⟩, H7, H8⟩ := bnd_some H1
      obtain ⟨_, H9, I0, q4, q5, I1, rfl, I2, I3, q6, I4⟩ := W_spec_FirstStrong fu H2 c1 k0 H6 H7
      have d6 := H5.call I2
      refine AO.c rfl (o_call (vs := [.int .i64 c1]) rfl Tryz.call16 I0) (AO.m rfl rfl (AO.p rfl (p_extract rfl rfl) (AO.p rfl (p_extract rfl rfl) (AO.a rfl rfl (AO.a rfl rfl (AO.nil (AX.seq ?_)))))))
      obtain ⟨I5, q7, q8⟩ := bnd_some H8
      refine AX.cut (fun t' H' => ∃ (k3 : Bool), k3 = I5 ∧ St M0 H H' [a7, oseg d5 (tcells g0), tseg g0] ∧ Pin a7 F ∧ PV a7 p_a0 c_a0 a0 ∧ Am.Sub [(0, .slice p_a0 a0.length c_a0), (21, .int .i64 c1), (22, .slice d5 d4.length e5), (23, .int .i64 q1), (183, .bool k3)] t') ?_ ?_
      ·skip
       refine AX.region (AO.m rfl rfl (AO.m rfl rfl (AO.p rfl (p_neq rfl rfl) (AO.m rfl rfl (AO.cases (d := 178) rfl (fun k5 => ?_) (fun k5 => ?_))))))
       ·have I6 := bif_t k5 q7
        refine AO.gn rfl rfl rfl (AO.gn rfl rfl rfl (AO.gn rfl rfl rfl (AO.gn rfl rfl rfl (AO.p rfl (p_pickT rfl rfl) (AO.nil ?_)))))
        have I7 := d6.front 3 rfl
        have I8 := I7.front 3 rfl
        have I9 := I8.front 4 rfl
        have J0 := I9.keep 3
        exact ⟨true, (some_inj I6), J0, (q0.mono f9), (j8.mono f9), Sub.k4 rfl rfl rfl rfl (Sub.k1 rfl (Sub.nil _))⟩
       ·have J1 := bif_f k5 q7
        refine AO.gp rfl rfl rfl (p_move rfl) (AO.gp rfl rfl rfl (p_move rfl) ?_)
        obtain ⟨q9, J2, J3⟩ := bnd_some J1
        refine AO.gc rfl rfl rfl (o_call (vs := [.slice d5 d4.length e5, .slice q4 k0.length q5]) rfl Tryz.call17 (W_laws_rows5 fu H9 d5 e5 g0 d4 g1 (d6.oview (k := 2) rfl q2 (tc_len1 g1 rfl)) (d6.oviewT (k := 3) rfl q3) q4 q5 I1 k0 q6 (d6.oview (k := 0) rfl I3 (tc_len1 q6 rfl)) (d6.oviewT (k := 1) rfl I4) q9 J2)) (AO.gp rfl rfl rfl (p_not rfl) (AO.p rfl (p_pickF rfl rfl) (AO.nil ?_)))
        have J4 := d6.front 3 rfl
        have J5 := J4.front 3 rfl
        have J6 := J5.front 4 rfl
        have J7 := J6.keep 3
        exact ⟨(!q9), (some_inj J3), J7, (q0.mono f9), (j8.mono f9), Sub.k4 rfl rfl rfl rfl (Sub.k1 rfl (Sub.nil _))⟩
      ·rintro t' r1 ⟨k3, rfl, d7, g2, r2, J8⟩
       refine AX.sub J8 (AX.cond rfl (fun k6 => ?_) (fun k6 => ?_))
       ·have J9 := bif_t k6 q8
        refine AX.sr (AO.a rfl rfl (AO.nil (AX.ret ?_)))
        obtain rfl := some_inj J9
        have K0 := d7.front 0 rfl
        have K1 := K0.keep 1
        exact ⟨.inr rfl, _, res1 rfl (rv_tmp rfl), a7, rfl, K1, g2⟩
       ·have K2 := bif_f k6 q8
        refine AX.skip (AX.seq (AX.sr (AO.m rfl rfl (AO.p rfl (p_eql rfl rfl) (AO.nil ?_)))))
        obtain ⟨r3, r4, r5⟩ := bnd_some K2
        refine AX.cutS (fun t' H' => .inl () = r3 ∧ St M0 H H' [a7] ∧ Pin a7 F ∧ PV a7 p_a0 c_a0 a0 ∧ Am.Sub [(0, .slice p_a0 a0.length c_a0)] t') ?_ ?_
        ·skip
         refine AX.cond rfl (fun k7 => ?_) (fun k7 => ?_)
         ·have K3 := bif_t k7 r4
          refine AX.sr (AO.m rfl rfl (AO.m rfl rfl ?_))
          obtain ⟨⟨r6, r7⟩, K4, r8⟩ := bnd_some K3
          refine AO.c rfl (o_call (vs := [.int .i64 c1, .slice d5 d4.length e5]) rfl Tryz.call18 (W_impl_IsStrong fu r1 c1 d5 e5 g0 d4 g1 (d7.oview (k := 1) rfl q2 (tc_len1 g1 rfl)) (d7.oviewT (k := 2) rfl q3) r6 r7 K4)) (AO.m rfl rfl (AO.p rfl (p_extract rfl rfl) (AO.p rfl (p_extract rfl rfl) (AO.a rfl rfl (AO.a rfl rfl (AO.nil (AX.cut (fun t' H' => r1 = H' ∧ Am.Sub [(0, .slice p_a0 a0.length c_a0), (197, .bool ((!decide (r7 = 0)) || (!r6)))] t') ?_ ?_)))))))
          ·skip
           refine AX.region (AO.m rfl rfl (AO.p rfl (p_neq rfl rfl) (AO.m rfl rfl (AO.cases (d := 194) rfl (fun k9 => ?_) (fun k9 => ?_)))))
           ·skip
            refine AO.gn rfl rfl rfl (AO.gn rfl rfl rfl (AO.p rfl (p_pickT rfl rfl) (AO.nil ?_)))
            exact ⟨rfl, Sub.k2 rfl (congrArg some (bool_eq (by simp only [k9, Bool.true_and, Bool.false_and, Bool.and_true, Bool.and_false, Bool.true_or, Bool.false_or, Bool.or_true, Bool.or_false, Bool.not_true, Bool.not_false, cond_true, cond_false]))) (Sub.nil _)⟩
           ·skip
            refine AO.gp rfl rfl rfl (p_move rfl) (AO.gp rfl rfl rfl (p_not rfl) (AO.p rfl (p_pickF rfl rfl) (AO.nil ?_)))
            exact ⟨rfl, Sub.k2 rfl (congrArg some (bool_eq (by simp only [k9, Bool.true_and, Bool.false_and, Bool.and_true, Bool.and_false, Bool.true_or, Bool.false_or, Bool.or_true, Bool.or_false, Bool.not_true, Bool.not_false, cond_true, cond_false]))) (Sub.nil _)⟩
          ·rintro t' _ ⟨rfl, K5⟩
           refine AX.sub K5 (AX.cond rfl (fun l0 => ?_) (fun l0 => ?_))
           ·have K6 := bif_t l0 r8
            refine AX.sr (AO.a rfl rfl (AO.nil (AX.ret ?_)))
            have K7 : _ = r3 := some_inj K6
            subst K7
            obtain rfl := some_inj r5
            have K8 := d7.front 0 rfl
            have K9 := K8.keep 1
            exact ⟨.inr rfl, _, res1 rfl (rv_tmp rfl), a7, rfl, K9, g2⟩
           ·have L0 := bif_f l0 r8
            refine AX.skip ?_
            have L1 := d7.front 0 rfl
            have L2 := L1.keep 1
            exact ⟨(some_inj L0), L2, g2, r2, Sub.k1 rfl (Sub.nil _)⟩
         ·have L3 := bif_f k7 r4
          refine AX.skip ?_
          have L4 := d7.front 0 rfl
          have L5 := L4.keep 1
          exact ⟨(some_inj L3), L5, g2, r2, Sub.k1 rfl (Sub.nil _)⟩
        ·rintro t' r9 ⟨rfl, L6, L7, l1, L8⟩
         refine ⟨_, L8, ?_⟩
         refine AX.sr (AO.m rfl rfl ?_)
         have L9 := L6.front 0 rfl
         have l2 : St M0 H r9 [a7] := L9
         obtain ⟨⟨e6, e7, c6⟩, M1, M2⟩ := bnd_some r5
         obtain ⟨_, g3, M3, d8, g4, d9, e0, g5, e8, rfl, M4, s0, g6, s1, s2, l3⟩ := W_spec_DrawIsAdder fu r9 a7 p_a0 c_a0 a0 l1 (St.fnodup (A := [a7]) l2) (St.fmem (A := [a7]) l2) e6 e7 c6 M1
         have c7 := St.callM (A := [a7]) l2 M4 (fun j h => h)
         refine AO.c rfl (o_call (vs := [.slice p_a0 a0.length c_a0]) rfl Tryz.call19 M3) (AO.m rfl rfl (AO.p rfl (p_extract rfl rfl) (AO.p rfl (p_extract rfl rfl) (AO.p rfl (p_extract rfl rfl) (AO.a rfl rfl (AO.a rfl rfl (AO.a rfl rfl (AO.nil (AX.sr (AO.m rfl rfl (AO.m rfl rfl (AO.m rfl rfl ?_))))))))))))
         obtain ⟨⟨s3, s4⟩, M5, M6⟩ := bnd_some M2
         refine AO.c rfl (o_call (vs := [.int .i64 e6, .slice d8 e7.length g4, .slice e0 c6.length g5]) rfl Tryz.call11 (W_impl_IsAdder fu g3 e6 d8 g4 d9 e7 g6 (c7.oview (k := 0) rfl s0 (tc_len1 g6 rfl)) (c7.oviewT (k := 1) rfl s1) e0 g5 c6 (c7.oview (k := 2) rfl s2 (ints_len1 rfl)) s3 s4 M5)) (AO.m rfl rfl (AO.p rfl (p_extract rfl rfl) (AO.p rfl (p_extract rfl rfl) (AO.a rfl rfl (AO.a rfl rfl (AO.nil (AX.sr (AO.m rfl rfl (AO.m rfl rfl (AO.m rfl rfl ?_))))))))))
         obtain ⟨⟨s5, s6⟩, M7, M8⟩ := bnd_some M6
         refine AO.c rfl (o_call (vs := [.int .i64 e6, .slice d8 e7.length g4, .slice e0 c6.length g5]) rfl Tryz.call20 (W_spec_IsAdder fu g3 e6 d8 g4 d9 e7 g6 (c7.oview (k := 0) rfl s0 (tc_len1 g6 rfl)) (c7.oviewT (k := 1) rfl s1) e0 g5 c6 (c7.oview (k := 2) rfl s2 (ints_len1 rfl)) s5 s6 M7)) (AO.m rfl rfl (AO.p rfl (p_extract rfl rfl) (AO.p rfl (p_extract rfl rfl) (AO.a rfl rfl (AO.a rfl rfl (AO.nil (AX.sr (AO.m rfl rfl ?_))))))))
         have M9 := c7.front 3 rfl
         have l4 : St M0 H g3 [e8, oseg d8 (tcells d9), tseg d9, oseg e0 (ints c6)] := M9
         obtain ⟨⟨e9, f0, f1⟩, N0, N1⟩ := bnd_some M8
         obtain ⟨_, g7, N2, f2, g8, g9, f3, h0, h1, f4, rfl, N3, s7, h2, s8, s9, h3, t0, t1⟩ := W_spec_DrawAreOrthogonal fu g3 e8 p_a0 c_a0 a0 (l1.mono l3) (St.fnodup (A := [e8]) l4) (St.fmem (A := [e8]) l4) e9 f0 f1 N0
         have b4 := St.callM (A := [e8]) l4 N3 (fun j h => h)
         refine AO.c rfl (o_call (vs := [.slice p_a0 a0.length c_a0]) rfl Tryz.call21 N2) (AO.m rfl rfl (AO.p rfl (p_extract rfl rfl) (AO.p rfl (p_extract rfl rfl) (AO.p rfl (p_extract rfl rfl) (AO.a rfl rfl (AO.a rfl rfl (AO.a rfl rfl (AO.nil (AX.sr (AO.m rfl rfl (AO.m rfl rfl (AO.m rfl rfl ?_))))))))))))
         obtain ⟨⟨t2, t3⟩, N4, N5⟩ := bnd_some N1
         refine AO.c rfl (o_call (vs := [.int .i64 e9, .slice f2 f0.length g8, .slice f3 f1.length h0]) rfl Tryz.call13 (W_impl_AreOrthogonal fu g7 e9 f2 g8 g9 f0 h2 (b4.oview (k := 0) rfl s7 (tc_len1 h2 rfl)) (b4.oviewT (k := 1) rfl s8) f3 h0 h1 f1 h3 (b4.oview (k := 2) rfl s9 (tc_len1 h3 rfl)) (b4.oviewT (k := 3) rfl t0) t2 t3 N4)) (AO.m rfl rfl (AO.p rfl (p_extract rfl rfl) (AO.p rfl (p_extract rfl rfl) (AO.a rfl rfl (AO.a rfl rfl (AO.nil (AX.sr (AO.m rfl rfl (AO.m rfl rfl (AO.m rfl rfl ?_))))))))))
         obtain ⟨⟨t4, t5⟩, N6, N7⟩ := bnd_some N5
         refine AO.c rfl (o_call (vs := [.int .i64 e9, .slice f2 f0.length g8, .slice f3 f1.length h0]) rfl Tryz.call22 (W_spec_AreOrthogonal fu g7 e9 f2 g8 g9 f0 h2 (b4.oview (k := 0) rfl s7 (tc_len1 h2 rfl)) (b4.oviewT (k := 1) rfl s8) f3 h0 h1 f1 h3 (b4.oview (k := 2) rfl s9 (tc_len1 h3 rfl)) (b4.oviewT (k := 3) rfl t0) t4 t5 N6)) (AO.m rfl rfl (AO.p rfl (p_extract rfl rfl) (AO.p rfl (p_extract rfl rfl) (AO.a rfl rfl (AO.a rfl rfl (AO.nil (AX.sr (AO.m rfl rfl ?_))))))))
         have N8 := b4.front 4 rfl
         have l5 : St M0 H g7 [f4, oseg f2 (tcells g9), tseg g9, oseg f3 (tcells h1), tseg h1, oseg d8 (tcells d9), tseg d9, oseg e0 (ints c6)] := N8
         obtain ⟨f5, N9, O0⟩ := bnd_some N7
         obtain ⟨_, l6, O1, O2, rfl, O3, O4⟩ := W_spec_DrawCountStarters fu g7 f4 p_a0 c_a0 a0 ((l1.mono l3).mono t1) (St.fnodup (A := [f4]) l5) (St.fmem (A := [f4]) l5) f5 N9
         have O5 := St.callM (A := [f4]) l5 O3 (fun j h => h)
         refine AO.c rfl (o_call (vs := [.slice p_a0 a0.length c_a0]) rfl Tryz.call23 O1) (AO.a rfl rfl (AO.nil (AX.sr (AO.m rfl rfl ?_))))
         obtain ⟨⟨l7, h4, l8, t6⟩, O6, O7⟩ := bnd_some O0
         refine AO.c rfl (o_call (vs := [.int .i64 f5]) rfl Tryz.call24 (W_impl_CountStarters fu l6 f5 l7 h4 l8 t6 O6)) (AO.m rfl rfl (AO.p rfl (p_extract rfl rfl) (AO.p rfl (p_extract rfl rfl) (AO.p rfl (p_extract rfl rfl) (AO.p rfl (p_extract rfl rfl) (AO.a rfl rfl (AO.a rfl rfl (AO.a rfl rfl (AO.a rfl rfl (AO.nil (AX.sr (AO.m rfl rfl ?_))))))))))))
         obtain ⟨⟨t7, t8, t9, u0⟩, O8, O9⟩ := bnd_some O7
         refine AO.c rfl (o_call (vs := [.int .i64 f5]) rfl Tryz.call25 (W_spec_CountStarters fu l6 f5 t7 t8 t9 u0 O8)) (AO.m rfl rfl (AO.p rfl (p_extract rfl rfl) (AO.p rfl (p_extract rfl rfl) (AO.p rfl (p_extract rfl rfl) (AO.p rfl (p_extract rfl rfl) (AO.a rfl rfl (AO.a rfl rfl (AO.a rfl rfl (AO.a rfl rfl (AO.nil (AX.cut (fun t' H' => l6 = H' ∧ Am.Sub [(2, .bool ((decide (s4 = s6)) && ((s3 == s5) && ((decide (t3 = t5)) && ((t2 == t4) && ((decide (t6 = u0)) && ((decide (l7 = t7)) && ((decide (h4 = t8)) && ((decide (l8 = t9)) && ((decide (l8 ≤ h4)) && (decide (h4 ≤ l7))))))))))))] t') ?_ ?_)))))))))))
         ·skip
          refine AX.region (AO.m rfl rfl (AO.m rfl rfl (AO.p rfl (p_eql rfl rfl) (AO.m rfl rfl (AO.cases (d := 257) rfl (fun a9 => ?_) (fun a9 => ?_))))))
          ·skip
           refine AO.gp rfl rfl rfl (p_move rfl) (AO.gp rfl rfl rfl (p_move rfl) (AO.gp rfl rfl rfl (p_beql underlying4 rfl rfl) (AO.p rfl (p_pickT rfl rfl) (AO.m rfl rfl (AO.cases (d := 262) rfl (fun b2 => ?_) (fun b2 => ?_))))))
           ·skip
            refine AO.gp rfl rfl rfl (p_move rfl) (AO.gp rfl rfl rfl (p_move rfl) (AO.gp rfl rfl rfl (p_eql rfl rfl) (AO.p rfl (p_pickT rfl rfl) (AO.m rfl rfl (AO.cases (d := 267) rfl (fun b5 => ?_) (fun b5 => ?_))))))
            ·skip
             refine AO.gp rfl rfl rfl (p_move rfl) (AO.gp rfl rfl rfl (p_move rfl) (AO.gp rfl rfl rfl (p_beql underlying4 rfl rfl) (AO.p rfl (p_pickT rfl rfl) (AO.m rfl rfl (AO.cases (d := 272) rfl (fun c2 => ?_) (fun c2 => ?_))))))
             ·skip
              refine AO.gp rfl rfl rfl (p_move rfl) (AO.gp rfl rfl rfl (p_move rfl) (AO.gp rfl rfl rfl (p_eql rfl rfl) (AO.p rfl (p_pickT rfl rfl) (AO.m rfl rfl (AO.cases (d := 277) rfl (fun c8 => ?_) (fun c8 => ?_))))))
              ·skip
               refine AO.gp rfl rfl rfl (p_move rfl) (AO.gp rfl rfl rfl (p_move rfl) (AO.gp rfl rfl rfl (p_eql rfl rfl) (AO.p rfl (p_pickT rfl rfl) (AO.m rfl rfl (AO.cases (d := 282) rfl (fun e1 => ?_) (fun e1 => ?_))))))
               ·skip
                refine AO.gp rfl rfl rfl (p_move rfl) (AO.gp rfl rfl rfl (p_move rfl) (AO.gp rfl rfl rfl (p_eql rfl rfl) (AO.p rfl (p_pickT rfl rfl) (AO.m rfl rfl (AO.cases (d := 287) rfl (fun f6 => ?_) (fun f6 => ?_))))))
                ·skip
                 refine AO.gp rfl rfl rfl (p_move rfl) (AO.gp rfl rfl rfl (p_move rfl) (AO.gp rfl rfl rfl (p_eql rfl rfl) (AO.p rfl (p_pickT rfl rfl) (AO.m rfl rfl (AO.cases (d := 292) rfl (fun h5 => ?_) (fun h5 => ?_))))))
                 ·skip
                  refine AO.gp rfl rfl rfl (p_move rfl) (AO.gp rfl rfl rfl (p_move rfl) (AO.gp rfl rfl rfl (p_leq rfl rfl) (AO.p rfl (p_pickT rfl rfl) (AO.m rfl rfl (AO.cases (d := 297) rfl (fun l9 => ?_) (fun l9 => ?_))))))
                  ·skip
                   refine AO.gp rfl rfl rfl (p_move rfl) (AO.gp rfl rfl rfl (p_move rfl) (AO.gp rfl rfl rfl (p_leq rfl rfl) (AO.p rfl (p_pickT rfl rfl) (AO.a rfl rfl (AO.nil ?_)))))
                   exact ⟨rfl, Sub.k1 (congrArg some (bool_eq (by simp only [a9, b2, b5, c2, c8, e1, f6, h5, l9, Bool.true_and, Bool.false_and, Bool.and_true, Bool.and_false, Bool.true_or, Bool.false_or, Bool.or_true, Bool.or_false, Bool.not_true, Bool.not_false, cond_true, cond_false]))) (Sub.nil _)⟩
                  ·skip
                   refine AO.gn rfl rfl rfl (AO.gn rfl rfl rfl (AO.gn rfl rfl rfl (AO.p rfl (p_pickF rfl rfl) (AO.a rfl rfl (AO.nil ?_)))))
                   exact ⟨rfl, Sub.k1 (congrArg some (bool_eq (by simp only [a9, b2, b5, c2, c8, e1, f6, h5, l9, Bool.true_and, Bool.false_and, Bool.and_true, Bool.and_false, Bool.true_or, Bool.false_or, Bool.or_true, Bool.or_false, Bool.not_true, Bool.not_false, cond_true, cond_false]))) (Sub.nil _)⟩
                 ·skip
                  refine AO.gn rfl rfl rfl (AO.gn rfl rfl rfl (AO.gn rfl rfl rfl (AO.p rfl (p_pickF rfl rfl) (AO.m rfl rfl (AO.gn rfl rfl rfl (AO.gn rfl rfl rfl (AO.gn rfl rfl rfl (AO.p rfl (p_pickF rfl rfl) (AO.a rfl rfl (AO.nil ?_))))))))))
                  exact ⟨rfl, Sub.k1 (congrArg some (bool_eq (by simp only [a9, b2, b5, c2, c8, e1, f6, h5, Bool.true_and, Bool.false_and, Bool.and_true, Bool.and_false, Bool.true_or, Bool.false_or, Bool.or_true, Bool.or_false, Bool.not_true, Bool.not_false, cond_true, cond_false]))) (Sub.nil _)⟩
                ·skip
                 refine AO.gn rfl rfl rfl (AO.gn rfl rfl rfl (AO.gn rfl rfl rfl (AO.p rfl (p_pickF rfl rfl) (AO.m rfl rfl (AO.gn rfl rfl rfl (AO.gn rfl rfl rfl (AO.gn rfl rfl rfl (AO.p rfl (p_pickF rfl rfl) (AO.m rfl rfl (AO.gn rfl rfl rfl (AO.gn rfl rfl rfl (AO.gn rfl rfl rfl (AO.p rfl (p_pickF rfl rfl) ?_)))))))))))))
                 refine AO.a rfl rfl (AO.nil ?_)
                 exact ⟨rfl, Sub.k1 (congrArg some (bool_eq (by simp only [a9, b2, b5, c2, c8, e1, f6, Bool.true_and, Bool.false_and, Bool.and_true, Bool.and_false, Bool.true_or, Bool.false_or, Bool.or_true, Bool.or_false, Bool.not_true, Bool.not_false, cond_true, cond_false]))) (Sub.nil _)⟩
               ·skip
                refine AO.gn rfl rfl rfl (AO.gn rfl rfl rfl (AO.gn rfl rfl rfl (AO.p rfl (p_pickF rfl rfl) (AO.m rfl rfl (AO.gn rfl rfl rfl (AO.gn rfl rfl rfl (AO.gn rfl rfl rfl (AO.p rfl (p_pickF rfl rfl) (AO.m rfl rfl (AO.gn rfl rfl rfl (AO.gn rfl rfl rfl (AO.gn rfl rfl rfl (AO.p rfl (p_pickF rfl rfl) ?_)))))))))))))
                refine AO.m rfl rfl (AO.gn rfl rfl rfl (AO.gn rfl rfl rfl (AO.gn rfl rfl rfl (AO.p rfl (p_pickF rfl rfl) (AO.a rfl rfl (AO.nil ?_))))))
                exact ⟨rfl, Sub.k1 (congrArg some (bool_eq (by simp only [a9, b2, b5, c2, c8, e1, Bool.true_and, Bool.false_and, Bool.and_true, Bool.and_false, Bool.true_or, Bool.false_or, Bool.or_true, Bool.or_false, Bool.not_true, Bool.not_false, cond_true, cond_false]))) (Sub.nil _)⟩
              ·skip
               refine AO.gn rfl rfl rfl (AO.gn rfl rfl rfl (AO.gn rfl rfl rfl (AO.p rfl (p_pickF rfl rfl) (AO.m rfl rfl (AO.gn rfl rfl rfl (AO.gn rfl rfl rfl (AO.gn rfl rfl rfl (AO.p rfl (p_pickF rfl rfl) (AO.m rfl rfl (AO.gn rfl rfl rfl (AO.gn rfl rfl rfl (AO.gn rfl rfl rfl (AO.p rfl (p_pickF rfl rfl) ?_)))))))))))))
               refine AO.m rfl rfl (AO.gn rfl rfl rfl (AO.gn rfl rfl rfl (AO.gn rfl rfl rfl (AO.p rfl (p_pickF rfl rfl) (AO.m rfl rfl (AO.gn rfl rfl rfl (AO.gn rfl rfl rfl (AO.gn rfl rfl rfl (AO.p rfl (p_pickF rfl rfl) (AO.a rfl rfl (AO.nil ?_)))))))))))
               exact ⟨rfl, Sub.k1 (congrArg some (bool_eq (by simp only [a9, b2, b5, c2, c8, Bool.true_and, Bool.false_and, Bool.and_true, Bool.and_false, Bool.true_or, Bool.false_or, Bool.or_true, Bool.or_false, Bool.not_true, Bool.not_false, cond_true, cond_false]))) (Sub.nil _)⟩
             ·skip
              refine AO.gn rfl rfl rfl (AO.gn rfl rfl rfl (AO.gn rfl rfl rfl (AO.p rfl (p_pickF rfl rfl) (AO.m rfl rfl (AO.gn rfl rfl rfl (AO.gn rfl rfl rfl (AO.gn rfl rfl rfl (AO.p rfl (p_pickF rfl rfl) (AO.m rfl rfl (AO.gn rfl rfl rfl (AO.gn rfl rfl rfl (AO.gn rfl rfl rfl (AO.p rfl (p_pickF rfl rfl) ?_)))))))))))))
              refine AO.m rfl rfl (AO.gn rfl rfl rfl (AO.gn rfl rfl rfl (AO.gn rfl rfl rfl (AO.p rfl (p_pickF rfl rfl) (AO.m rfl rfl (AO.gn rfl rfl rfl (AO.gn rfl rfl rfl (AO.gn rfl rfl rfl (AO.p rfl (p_pickF rfl rfl) (AO.m rfl rfl (AO.gn rfl rfl rfl (AO.gn rfl rfl rfl (AO.gn rfl rfl rfl ?_)))))))))))))
              refine AO.p rfl (p_pickF rfl rfl) (AO.a rfl rfl (AO.nil ?_))
              exact ⟨rfl, Sub.k1 (congrArg some (bool_eq (by simp only [a9, b2, b5, c2, Bool.true_and, Bool.false_and, Bool.and_true, Bool.and_false, Bool.true_or, Bool.false_or, Bool.or_true, Bool.or_false, Bool.not_true, Bool.not_false, cond_true, cond_false]))) (Sub.nil _)⟩
            ·skip
             refine AO.gn rfl rfl rfl (AO.gn rfl rfl rfl (AO.gn rfl rfl rfl (AO.p rfl (p_pickF rfl rfl) (AO.m rfl rfl (AO.gn rfl rfl rfl (AO.gn rfl rfl rfl (AO.gn rfl rfl rfl (AO.p rfl (p_pickF rfl rfl) (AO.m rfl rfl (AO.gn rfl rfl rfl (AO.gn rfl rfl rfl (AO.gn rfl rfl rfl (AO.p rfl (p_pickF rfl rfl) ?_)))))))))))))
             refine AO.m rfl rfl (AO.gn rfl rfl rfl (AO.gn rfl rfl rfl (AO.gn rfl rfl rfl (AO.p rfl (p_pickF rfl rfl) (AO.m rfl rfl (AO.gn rfl rfl rfl (AO.gn rfl rfl rfl (AO.gn rfl rfl rfl (AO.p rfl (p_pickF rfl rfl) (AO.m rfl rfl (AO.gn rfl rfl rfl (AO.gn rfl rfl rfl (AO.gn rfl rfl rfl ?_)))))))))))))
             refine AO.p rfl (p_pickF rfl rfl) (AO.m rfl rfl (AO.gn rfl rfl rfl (AO.gn rfl rfl rfl (AO.gn rfl rfl rfl (AO.p rfl (p_pickF rfl rfl) (AO.a rfl rfl (AO.nil ?_)))))))
             exact ⟨rfl, Sub.k1 (congrArg some (bool_eq (by simp only [a9, b2, b5, Bool.true_and, Bool.false_and, Bool.and_true, Bool.and_false, Bool.true_or, Bool.false_or, Bool.or_true, Bool.or_false, Bool.not_true, Bool.not_false, cond_true, cond_false]))) (Sub.nil _)⟩
           ·skip
            refine AO.gn rfl rfl rfl (AO.gn rfl rfl rfl (AO.gn rfl rfl rfl (AO.p rfl (p_pickF rfl rfl) (AO.m rfl rfl (AO.gn rfl rfl rfl (AO.gn rfl rfl rfl (AO.gn rfl rfl rfl (AO.p rfl (p_pickF rfl rfl) (AO.m rfl rfl (AO.gn rfl rfl rfl (AO.gn rfl rfl rfl (AO.gn rfl rfl rfl (AO.p rfl (p_pickF rfl rfl) ?_)))))))))))))
            refine AO.m rfl rfl (AO.gn rfl rfl rfl (AO.gn rfl rfl rfl (AO.gn rfl rfl rfl (AO.p rfl (p_pickF rfl rfl) (AO.m rfl rfl (AO.gn rfl rfl rfl (AO.gn rfl rfl rfl (AO.gn rfl rfl rfl (AO.p rfl (p_pickF rfl rfl) (AO.m rfl rfl (AO.gn rfl rfl rfl (AO.gn rfl rfl rfl (AO.gn rfl rfl rfl ?_)))))))))))))
            refine AO.p rfl (p_pickF rfl rfl) (AO.m rfl rfl (AO.gn rfl rfl rfl (AO.gn rfl rfl rfl (AO.gn rfl rfl rfl (AO.p rfl (p_pickF rfl rfl) (AO.m rfl rfl (AO.gn rfl rfl rfl (AO.gn rfl rfl rfl (AO.gn rfl rfl rfl (AO.p rfl (p_pickF rfl rfl) (AO.a rfl rfl (AO.nil ?_))))))))))))
            exact ⟨rfl, Sub.k1 (congrArg some (bool_eq (by simp only [a9, b2, Bool.true_and, Bool.false_and, Bool.and_true, Bool.and_false, Bool.true_or, Bool.false_or, Bool.or_true, Bool.or_false, Bool.not_true, Bool.not_false, cond_true, cond_false]))) (Sub.nil _)⟩
          ·skip
           refine AO.gn rfl rfl rfl (AO.gn rfl rfl rfl (AO.gn rfl rfl rfl (AO.p rfl (p_pickF rfl rfl) (AO.m rfl rfl (AO.gn rfl rfl rfl (AO.gn rfl rfl rfl (AO.gn rfl rfl rfl (AO.p rfl (p_pickF rfl rfl) (AO.m rfl rfl (AO.gn rfl rfl rfl (AO.gn rfl rfl rfl (AO.gn rfl rfl rfl (AO.p rfl (p_pickF rfl rfl) ?_)))))))))))))
           refine AO.m rfl rfl (AO.gn rfl rfl rfl (AO.gn rfl rfl rfl (AO.gn rfl rfl rfl (AO.p rfl (p_pickF rfl rfl) (AO.m rfl rfl (AO.gn rfl rfl rfl (AO.gn rfl rfl rfl (AO.gn rfl rfl rfl (AO.p rfl (p_pickF rfl rfl) (AO.m rfl rfl (AO.gn rfl rfl rfl (AO.gn rfl rfl rfl (AO.gn rfl rfl rfl ?_)))))))))))))
           refine AO.p rfl (p_pickF rfl rfl) (AO.m rfl rfl (AO.gn rfl rfl rfl (AO.gn rfl rfl rfl (AO.gn rfl rfl rfl (AO.p rfl (p_pickF rfl rfl) (AO.m rfl rfl (AO.gn rfl rfl rfl (AO.gn rfl rfl rfl (AO.gn rfl rfl rfl (AO.p rfl (p_pickF rfl rfl) (AO.m rfl rfl (AO.gn rfl rfl rfl (AO.gn rfl rfl rfl ?_)))))))))))))
           refine AO.gn rfl rfl rfl (AO.p rfl (p_pickF rfl rfl) (AO.a rfl rfl (AO.nil ?_)))
           exact ⟨rfl, Sub.k1 (congrArg some (bool_eq (by simp only [a9, Bool.true_and, Bool.false_and, Bool.and_true, Bool.and_false, Bool.true_or, Bool.false_or, Bool.or_true, Bool.or_false, Bool.not_true, Bool.not_false, cond_true, cond_false]))) (Sub.nil _)⟩
         ·rintro t' _ ⟨rfl, P0⟩
          refine AX.sub P0 (AX.ret ?_)
          obtain rfl := some_inj O9
          have P1 := O5.front 0 rfl
          have P2 := P1.keep 1
          exact ⟨.inr rfl, _, res1 rfl (rv_tmp rfl), O2, rfl, P2, (((L7.mono l3).mono t1).mono O4)⟩
end Go.Proofs.YtdafmafigcljkaaGreat
