
/-
 The program computes that, printed by a program. No condition.
-/
import Derived.Test.YtdafmafigcljkaaGreatDSb
import Derived.Test.YtdafmafigcljkaaGreatWSa
import Derived.Test.YtdafmafigcljkaaGreatProg
import Derived.KernelRfl
namespace Go.Proofs.YtdafmafigcljkaaGreat
open Go Go.RowKit Am Go.Proofs.Tryz
set_option linter.unusedVariables false
set_option linter.unusedSimpArgs false
set_option maxRecDepth 20000
set_option maxHeartbeats 4000000 in
theorem W_spec_DrawIsAdder (fu : Nat) (H : AHeap) (F : Sg) (p_a0 : Option Addr) (c_a0 : Nat) (a0 : List Int) (q_a0 : PV F p_a0 c_a0 a0) (hn : (([F] : List Sg).flatten.map (·.1)).Nodup) (ho : ∀ x ∈ ([F] : List Sg).flatten, x.1 < H.length ∧ hget H x.1 = x.2) (r0 : Int) (r1 : List (List Int)) (r2 : List Int) (hd : D_spec_DrawIsAdder fu a0 = some (r0, r1, r2)) : ∃ v G', ACall Tryz.prog 19 [.slice p_a0 a0.length c_a0] H v G' ∧ ∃ (p_r1 : Option Addr) (c_r1 : Nat) (T_r1 : Tb) (p_r2 : Option Addr) (c_r2 : Nat) (F' : Sg), (v = .tuple #[.int .i64 r0, .slice p_r1 r1.length c_r1, .slice p_r2 r2.length c_r2]) ∧ St (([F] : List Sg).flatten.map (·.1)) H G' [oseg p_r1 (tcells T_r1), tseg T_r1, oseg p_r2 (ints r2), F'] ∧ Sb p_r1 r1.length c_r1 1 ∧ trows T_r1 = r1 ∧ TSb T_r1 ∧ Sb p_r2 r2.length c_r2 1 ∧ Pin F' F := by
 refine ACall.bodyX (args := [.slice p_a0 a0.length c_a0]) (N := 76) [(0, .slice p_a0 a0.length c_a0)] (fun v G' => ∃ (p_r1 : Option Addr) (c_r1 : Nat) (T_r1 : Tb) (p_r2 : Option Addr) (c_r2 : Nat) (F' : Sg), (v = .tuple #[.int .i64 r0, .slice p_r1 r1.length c_r1, .slice p_r2 r2.length c_r2]) ∧ St (([F] : List Sg).flatten.map (·.1)) H G' [oseg p_r1 (tcells T_r1), tseg T_r1, oseg p_r2 (ints r2), F'] ∧ Sb p_r1 r1.length c_r1 1 ∧ trows T_r1 = r1 ∧ TSb T_r1 ∧ Sb p_r2 r2.length c_r2 1 ∧ Pin F' F) Tryz.func19 rfl rfl rfl rfl ?_
 unfold D_spec_DrawIsAdder at hd
 have S0 := St.initF hn ho
 generalize hM0 : (([F] : List Sg).flatten.map (·.1)) = M0 at S0 ⊢
 refine AX.sr (AO.a rfl rfl (AO.a rfl rfl (AO.a rfl rfl (AO.nil (AX.sr (AO.m rfl rfl ?_))))))
 have n1 := S0.front 0 rfl
 have f4 : St M0 H H [F] := n1
 obtain ⟨⟨d0, d1⟩, n2, n3⟩ := bnd_some hd
 obtain ⟨_, j1, n4, a1, d9, rfl, n5, f5⟩ := W_spec_l01From fu H F p_a0 c_a0 a0 q_a0 (St.fnodup (A := [F]) f4) (St.fmem (A := [F]) f4) d0 d1 n2
 have n6 := St.callM (A := [F]) f4 n5 (fun j h => h)
 refine AO.c rfl (o_call (vs := [.slice p_a0 a0.length c_a0]) rfl Tryz.call46 n4) (AO.a rfl rfl (AO.nil (AX.sr (AO.m rfl rfl ?_))))
 have n7 := n6.front 1 rfl
 have n8 := n7.front 1 rfl
 have f6 : St M0 H j1 [[(a1, AObj.row false ([.slice p_a0 a0.length c_a0, .int .i64 d0, .int .u64 d1]))], d9] := n8
 obtain ⟨⟨a2, a9, j2, j3⟩, n9, o0⟩ := bnd_some n3
 obtain ⟨_, J0, o1, a4, a5, b8, o2, rfl, o3, f7, o4, j4⟩ := W_spec_l03With fu j1 d9 a1 p_a0 c_a0 a0 (q_a0.mono f5) d0 d1 (St.fnodup (A := [[(a1, AObj.row false ([.slice p_a0 a0.length c_a0, .int .i64 d0, .int .u64 d1]))], d9]) f6) (St.fmem (A := [[(a1, AObj.row false ([.slice p_a0 a0.length c_a0, .int .i64 d0, .int .u64 d1]))], d9]) f6) a2 a9 j2 j3 n9
 have o5 := St.callM (A := [[(a1, AObj.row false ([.slice p_a0 a0.length c_a0, .int .i64 d0, .int .u64 d1]))], d9]) f6 o3 (fun j h => h)
 refine AO.c rfl (o_call (vs := [.pointer (some ⟨a1, 0, none⟩)]) rfl Tryz.call52 o1) (AO.m rfl rfl (AO.p rfl (p_extract rfl rfl) (AO.p rfl (p_extract rfl rfl) (AO.a rfl rfl (AO.a rfl rfl (AO.nil (AX.sr ?_)))))))
 obtain ⟨J1, j5, o6, o7, o8⟩ := o5.new (AObj.row false (ints []))
 refine AO.c rfl (s_build0 (i := j5) underlying27 sizeOf2 o6 o7) (AO.a rfl rfl (AO.nil (AX.seq (AX.sr (AO.a rfl rfl (AO.nil ?_))))))
 obtain ⟨o9, p0, p1⟩ := bnd_some o0
 refine AX.cutS (fun t' H' => ∃ (b9 : Int) (c0 : Int) (b3 : List Int) (b0 : Sg) (c1 : Option Addr) (d2 : Nat), (b9, c0, b3) = o9 ∧ St M0 H H' [b0, [(a1, AObj.row false ([.slice p_a0 a0.length c_a0, .int .i64 b9, .int .u64 c0]))], oseg c1 (ints b3)] ∧ Pin b0 F ∧ PV b0 p_a0 c_a0 a0 ∧ PT b0 a4 a5 b8 ∧ Sb c1 (b3.length) d2 1 ∧ Am.Sub [(5, .pointer (some ⟨a1, 0, none⟩)), (6, .int .i64 a2), (7, .slice a4 a9.length a5), (8, .slice c1 b3.length d2)] t') ?_ ?_
 ·refine AX.block (AX.loopF (fun s' t' H' => ∃ (c2 : Int) (c3 : Int) (a6 : List Int) (e0 : Int) (b1 : Sg) (d3 : Option Addr) (e7 : Nat), (c2, c3, a6, e0) = s' ∧ St M0 H H' [b1, [(a1, AObj.row false ([.slice p_a0 a0.length c_a0, .int .i64 c2, .int .u64 c3]))], oseg d3 (ints a6)] ∧ Pin b1 F ∧ PV b1 p_a0 c_a0 a0 ∧ PT b1 a4 a5 b8 ∧ Sb d3 (a6.length) e7 1 ∧ Am.Sub [(5, .pointer (some ⟨a1, 0, none⟩)), (6, .int .i64 a2), (7, .slice a4 a9.length a5), (8, .slice d3 a6.length e7), (9, .int .i64 e0)] t') p0 ?_ ?_)
  ·skip
   have p2 := o8.front 0 rfl
   have p3 := p2.front 1 rfl
   have p4 := p3.front 2 rfl
   exact ⟨j2, j3, [], 0, o2, (some (Addr.mk j5 0 none)), 0, rfl, p4, (((Pin.refl F).mono f5).mono j4), ((q_a0.mono f5).mono j4), o4, (Sb.lit (n := 0) (by decide)), Sub.k4 rfl rfl rfl rfl (Sub.k1 rfl (Sub.nil _))⟩
  ·rintro J2 _ t' j6 ⟨c2, c3, a6, e0, b1, d3, e7, rfl, j7, j8, f8, j9, f9, p5⟩ J3 g0 k0
   refine AX.sub p5 ?_
   unfold D_spec_DrawIsAdder_s0 at g0
   refine AX.seq (AX.sr (AO.m rfl rfl (AO.m rfl rfl (AO.p rfl (p_len_slice rfl underlying24) (AO.p rfl (p_lss rfl rfl) (AO.nil (AX.cond rfl (fun g1 => ?_) (fun g1 => ?_))))))))
   ·have p6 := bif_t g1 g0
    refine AX.skip (AX.seq (AX.block (AX.region (AO.m rfl rfl (AO.m rfl rfl (AO.m rfl rfl ?_))))))
    obtain ⟨p7, p8⟩ := chk_some p6
    refine AO.p rfl (p_subE rfl rfl p7) ?_
    have p9 := j7.front 0 rfl
    have q0 := p9.front 1 rfl
    have g2 : St M0 H j6 [[(a1, AObj.row false ([.slice p_a0 a0.length c_a0, .int .i64 c2, .int .u64 c3]))], b1, oseg d3 (ints a6)] := q0
    obtain ⟨⟨a8, g3, g4⟩, q1, q2⟩ := bnd_some p8
    obtain ⟨_, J4, q3, q4, rfl, q5, g5⟩ := W_spec_l01Next fu j6 b1 (a2 - 1) a1 p_a0 c_a0 a0 f8 c2 c3 (St.fnodup (A := [[(a1, AObj.row false ([.slice p_a0 a0.length c_a0, .int .i64 c2, .int .u64 c3]))], b1]) g2) (St.fmem (A := [[(a1, AObj.row false ([.slice p_a0 a0.length c_a0, .int .i64 c2, .int .u64 c3]))], b1]) g2) a8 g3 g4 q1
    have q6 := St.callM (A := [[(a1, AObj.row false ([.slice p_a0 a0.length c_a0, .int .i64 c2, .int .u64 c3]))], b1]) g2 q5 (fun j h => h)
    refine AO.c rfl (o_call (vs := [.pointer (some ⟨a1, 0, none⟩), .int .i64 (a2 - 1)]) rfl Tryz.call53 q3) ?_
    obtain ⟨q7, q8⟩ := chk_some q2
    refine AO.p rfl (p_addE rfl rfl q7) ?_
    obtain ⟨J5, q9, r3, r4, g6⟩ := q6.new (AObj.row false (ints [1 + a8]))
    refine AO.c rfl (s_buildInts (i := q9) (vs := [(0, .int .i64 (1 + a8))]) (xs := [1 + a8]) underlying27 sizeOf2 zeroValue2 rfl rfl (by decide) rfl rfl r3 r4) ?_
    obtain ⟨r5, r6⟩ := chk_some q8
    obtain ⟨k2, k3, J6, r7, r8, r9⟩ := g6.app (k := 3) rfl f9 (ints [1 + a8]) 1 (ints_len1 rfl)
    have s0 := r8.cellsEq (k := 3) (us' := ints (a6 ++ [1 + a8])) (ints_app _ _) rfl
    have s1 : Sb k2 ((a6 ++ [1 + a8]).length) k3 1 := (show a6.length + 1 = (a6 ++ [1 + a8]).length from len_app (a := a6) (b := [1 + a8]) rfl rfl) ▸ r9
    have s2 := s0.drop 0 rfl
    refine AO.c rfl (s_app (by_ := 8) (us := ints a6) (vs := ints [1 + a8]) underlying27 underlying27 typeInfo2 sizeOf2 zeroValue2 rfl rfl rfl rfl rfl rfl rfl (g6.buf (k := 3) rfl f9 (ints_len1 rfl)) (g6.oview (k := 0) rfl (Sb.lit (n := 1) (by decide)) (ints_len1 rfl)) (ints_len1 rfl) ints_one r5 r7 (show a6.length + 1 = (a6 ++ [1 + a8]).length from len_app (a := a6) (b := [1 + a8]) rfl rfl)) (AO.a rfl rfl (AO.nil (AX.region (AO.m rfl rfl ?_))))
    obtain ⟨s3, s4⟩ := chk_some r6
    refine AO.p rfl (p_addE rfl rfl s3) (AO.a rfl rfl (AO.nil ?_))
    obtain rfl := some_inj s4
    have s5 := s2.front 2 rfl
    have s6 := s5.front 1 rfl
    have s7 := s6.front 2 rfl
    exact ⟨(g3, g4, (a6 ++ [1 + a8]), e0 + 1), k0, g3, g4, (a6 ++ [1 + a8]), (e0 + 1), q4, k2, k3, rfl, s7, (j8.mono g5), (f8.mono g5), (j9.mono g5), s1, Sub.k4 rfl rfl rfl rfl (Sub.k1 rfl (Sub.nil _))⟩
   ·have s8 := bif_f g1 g0
    refine AX.exit ?_
    obtain rfl := some_inj s8
    have s9 := j7.front 2 rfl
    have t0 := s9.front 2 rfl
    have t1 := t0.front 2 rfl
    exact ⟨c2, c3, a6, b1, d3, e7, k0, t1, j8, f8, j9, f9, Sub.k4 rfl rfl rfl rfl (Sub.nil _)⟩
 ·rintro t' k5 ⟨b9, c0, b3, b0, c1, d2, rfl, k6, k7, g7, k8, k9, t2⟩
  refine ⟨_, t2, ?_⟩
  refine AX.seq ?_
  obtain ⟨t3, l0, t4⟩ := bnd_some p1
  refine AX.cut (fun t' H' => ∃ (b4 : Int) (b5 : Int) (g8 : Bool) (a7 : Sg), (b4, b5, g8) = t3 ∧ St M0 H H' [a7, [(a1, AObj.row false ([.slice p_a0 a0.length c_a0, .int .i64 b4, .int .u64 b5]))], oseg c1 (ints b3)] ∧ Pin a7 F ∧ PV a7 p_a0 c_a0 a0 ∧ PT a7 a4 a5 b8 ∧ Am.Sub [(5, .pointer (some ⟨a1, 0, none⟩)), (6, .int .i64 a2), (7, .slice a4 a9.length a5), (8, .slice c1 b3.length d2), (40, .bool g8)] t') ?_ ?_
  ·skip
   refine AX.region (AO.m rfl rfl (AO.p rfl (p_lss rfl rfl) (AO.m rfl rfl (AO.cases (d := 36) rfl (fun g9 => ?_) (fun g9 => ?_)))))
   ·have t5 := bif_t g9 l0
    refine AO.gp rfl rfl rfl (p_move rfl) ?_
    have t6 := k6.front 0 rfl
    have t7 := t6.front 1 rfl
    have h0 : St M0 H k5 [[(a1, AObj.row false ([.slice p_a0 a0.length c_a0, .int .i64 b9, .int .u64 c0]))], b0, oseg c1 (ints b3)] := t7
    obtain ⟨⟨l1, l2, l3⟩, t8, t9⟩ := bnd_some t5
    obtain ⟨_, J7, u0, u1, rfl, u2, h1⟩ := W_spec_l01Next fu k5 b0 3 a1 p_a0 c_a0 a0 g7 b9 c0 (St.fnodup (A := [[(a1, AObj.row false ([.slice p_a0 a0.length c_a0, .int .i64 b9, .int .u64 c0]))], b0]) h0) (St.fmem (A := [[(a1, AObj.row false ([.slice p_a0 a0.length c_a0, .int .i64 b9, .int .u64 c0]))], b0]) h0) l1 l2 l3 t8
    have u3 := St.callM (A := [[(a1, AObj.row false ([.slice p_a0 a0.length c_a0, .int .i64 b9, .int .u64 c0]))], b0]) h0 u2 (fun j h => h)
    refine AO.gc rfl rfl rfl (o_call (vs := [.pointer (some ⟨a1, 0, none⟩), .int .i64 3]) rfl Tryz.call53 u0) (AO.gp rfl rfl rfl (p_gtr rfl rfl) (AO.p rfl (p_pickT rfl rfl) (AO.nil ?_)))
    have u4 := u3.front 2 rfl
    have u5 := u4.front 1 rfl
    have u6 := u5.front 2 rfl
    exact ⟨l2, l3, (decide (0 < l1)), u1, (some_inj t9), u6, (k7.mono h1), (g7.mono h1), (k8.mono h1), Sub.k4 rfl rfl rfl rfl (Sub.k1 rfl (Sub.nil _))⟩
   ·have u7 := bif_f g9 l0
    refine AO.gn rfl rfl rfl (AO.gn rfl rfl rfl (AO.gn rfl rfl rfl (AO.p rfl (p_pickF rfl rfl) (AO.nil ?_))))
    have u8 := k6.front 2 rfl
    have u9 := u8.front 2 rfl
    have v0 := u9.front 2 rfl
    exact ⟨b9, c0, false, b0, (some_inj u7), v0, k7, g7, k8, Sub.k4 rfl rfl rfl rfl (Sub.k1 rfl (Sub.nil _))⟩
  ·rintro t' J8 ⟨b4, b5, g8, a7, rfl, l4, h2, h3, e1, v1⟩
   refine AX.sub v1 ?_
   obtain ⟨v2, l5, v3⟩ := bnd_some t4
   refine AX.cutS (fun t' H' => ∃ (a3 : List Int) (b2 : Option Addr) (e2 : Nat), a3 = v2 ∧ St M0 H H' [a7, [(a1, AObj.row false ([.slice p_a0 a0.length c_a0, .int .i64 b4, .int .u64 b5]))], oseg b2 (ints a3)] ∧ Pin a7 F ∧ PV a7 p_a0 c_a0 a0 ∧ PT a7 a4 a5 b8 ∧ Sb b2 (a3.length) e2 1 ∧ Am.Sub [(5, .pointer (some ⟨a1, 0, none⟩)), (6, .int .i64 a2), (7, .slice a4 a9.length a5), (8, .slice b2 a3.length e2)] t') ?_ ?_
   ·skip
    refine AX.cond rfl (fun h4 => ?_) (fun h4 => ?_)
    ·have v4 := bif_t h4 l5
     refine AX.sr (AO.m rfl rfl (AO.m rfl rfl ?_))
     obtain ⟨v5, h5, v6, v7, e8⟩ := l4.new (AObj.row false (ints []))
     refine AO.c rfl (s_build0 (i := h5) underlying27 sizeOf2 v6 v7) ?_
     have v8 := e8.front 0 rfl
     obtain ⟨⟨h6, v9⟩, w0, w1⟩ := bnd_some v4
     obtain ⟨_, w2, l6, l7, l8, rfl, w3⟩ := W_spec_l03FindAdder fu v5 a2 a4 a5 b8 a9 f7 (e8.ptview (k := 1) rfl e1 (tlen f7)) (e8.prview (k := 1) rfl (e1).rs) (some (Addr.mk h5 0 none)) 0 [] (by rw [show List.length [] = 0 from rfl]; exact (e8.oview (k := 0) rfl (Sb.lit (n := 0) (by decide)) (ints_len1 rfl))) h6 v9 w0
     rw [show List.length [] = 0 from rfl] at l6
     obtain ⟨h7, w4⟩ := St.callG v8 (Sb.lit (n := 0) (by decide)) w3
     refine AO.c rfl (o_call (vs := [.int .i64 a2, .slice a4 a9.length a5, .slice (some (Addr.mk h5 0 none)) 0 0]) rfl Tryz.call35 l6) (AO.m rfl rfl (AO.p rfl (p_extract rfl rfl) (AO.p rfl (p_extract rfl rfl) (AO.a rfl rfl (AO.a rfl rfl (AO.nil (AX.sr (AO.m rfl rfl (AO.nil ?_)))))))))
     obtain ⟨w5, l9, w6⟩ := bnd_some w1
     refine AX.cutS (fun t' H' => ∃ (d4 : List Int) (e3 : Option Addr) (e9 : Nat), d4 = w5 ∧ St M0 H H' [a7, [(a1, AObj.row false ([.slice p_a0 a0.length c_a0, .int .i64 b4, .int .u64 b5]))], oseg e3 (ints d4)] ∧ Pin a7 F ∧ PV a7 p_a0 c_a0 a0 ∧ PT a7 a4 a5 b8 ∧ Sb e3 (d4.length) e9 1 ∧ Am.Sub [(5, .pointer (some ⟨a1, 0, none⟩)), (6, .int .i64 a2), (7, .slice a4 a9.length a5), (8, .slice e3 d4.length e9)] t') ?_ ?_
     ·skip
      refine AX.cond rfl (fun h8 => ?_) (fun h8 => ?_)
      ·have w7 := bif_t h8 l9
       refine AX.region (AO.m rfl rfl ?_)
       obtain ⟨m0, w8, w9⟩ := bnd_some w7
       obtain ⟨_, J9, x0, x1, x2, rfl, x3, x4⟩ := W_spec_l01Own fu w2 l7 l8 h6 (h7.oview (k := 0) rfl w4 (ints_len1 rfl)) m0 w8
       have x5 := h7.call x3
       refine AO.c rfl (o_call (vs := [.slice l7 h6.length l8]) rfl Tryz.call54 x0) (AO.a rfl rfl (AO.nil ?_))
       have x6 := x5.front 0 rfl
       have x7 := x6.front 3 rfl
       have x8 := x7.front 3 rfl
       have x9 := x8.keep 3
       exact ⟨m0, x1, x2, (some_inj w9), x9, h2, h3, e1, x4, Sub.k4 rfl rfl rfl rfl (Sub.nil _)⟩
      ·have y0 := bif_f h8 l9
       refine AX.skip ?_
       have y1 := h7.front 3 rfl
       have y2 := y1.front 3 rfl
       have y3 := y2.front 3 rfl
       have y4 := y3.keep 3
       exact ⟨b3, c1, d2, (some_inj y0), y4, h2, h3, e1, k9, Sub.k4 rfl rfl rfl rfl (Sub.nil _)⟩
     ·rintro t' K0 ⟨d4, e3, e9, rfl, y5, y6, y7, y8, y9, z0⟩
      refine ⟨_, z0, ?_⟩
      have z1 := y5.front 2 rfl
      have z2 := z1.front 2 rfl
      have z3 := z2.front 2 rfl
      exact ⟨d4, e3, e9, (some_inj w6), z3, y6, y7, y8, y9, Sub.k4 rfl rfl rfl rfl (Sub.nil _)⟩
    ·have z4 := bif_f h4 l5
     refine AX.skip ?_
     have z5 := l4.front 2 rfl
     have z6 := z5.front 2 rfl
     have z7 := z6.front 2 rfl
     exact ⟨b3, c1, d2, (some_inj z4), z7, h2, h3, e1, k9, Sub.k4 rfl rfl rfl rfl (Sub.nil _)⟩
   ·rintro t' m1 ⟨a3, b2, e2, rfl, z8, h9, e4, i0, d5, z9⟩
    refine ⟨_, z9, ?_⟩
    refine AX.seq (AX.sr (AO.m rfl rfl ?_))
    have A0 := z8.front 0 rfl
    have A1 := A0.front 1 rfl
    have i1 : St M0 H m1 [[(a1, AObj.row false ([.slice p_a0 a0.length c_a0, .int .i64 b4, .int .u64 b5]))], a7, oseg b2 (ints a3)] := A1
    obtain ⟨⟨A2, c4, c5⟩, A3, A4⟩ := bnd_some v3
    obtain ⟨_, K1, A5, c9, rfl, A6, b6⟩ := W_spec_l01Next fu m1 a7 16 a1 p_a0 c_a0 a0 e4 b4 b5 (St.fnodup (A := [[(a1, AObj.row false ([.slice p_a0 a0.length c_a0, .int .i64 b4, .int .u64 b5]))], a7]) i1) (St.fmem (A := [[(a1, AObj.row false ([.slice p_a0 a0.length c_a0, .int .i64 b4, .int .u64 b5]))], a7]) i1) A2 c4 c5 A3
    have i2 := St.callM (A := [[(a1, AObj.row false ([.slice p_a0 a0.length c_a0, .int .i64 b4, .int .u64 b5]))], a7]) i1 A6 (fun j h => h)
    refine AO.c rfl (o_call (vs := [.pointer (some ⟨a1, 0, none⟩), .int .i64 16]) rfl Tryz.call53 A5) (AO.nil (AX.block (AX.sr (AO.p rfl (p_eql rfl rfl) (AO.a rfl rfl (AO.nil ?_))))))
    obtain ⟨A7, m2, A8⟩ := bnd_some A4
    refine AX.cutS (fun t' H' => ∃ (c6 : Int) (c7 : Int) (d6 : List Int) (b7 : Sg) (d7 : Option Addr) (f0 : Nat), (c6, c7, d6) = A7 ∧ St M0 H H' [b7, [(a1, AObj.row false ([.slice p_a0 a0.length c_a0, .int .i64 c6, .int .u64 c7]))], oseg d7 (ints d6)] ∧ Pin b7 F ∧ PV b7 p_a0 c_a0 a0 ∧ PT b7 a4 a5 b8 ∧ Sb d7 (d6.length) f0 1 ∧ Am.Sub [(5, .pointer (some ⟨a1, 0, none⟩)), (6, .int .i64 a2), (7, .slice a4 a9.length a5), (8, .slice d7 d6.length f0)] t') ?_ ?_
    ·skip
     refine AX.cond rfl (fun i3 => ?_) (fun i3 => ?_)
     ·have A9 := bif_t i3 m2
      refine AX.region (AO.m rfl rfl ?_)
      obtain ⟨K2, B0, B1, B2, i4⟩ := i2.new (AObj.row false (ints [1]))
      refine AO.c rfl (s_buildInts (i := B0) (vs := [(0, .int .i64 1)]) (xs := [1]) underlying27 sizeOf2 zeroValue2 rfl rfl (by decide) rfl rfl B1 B2) ?_
      obtain ⟨B3, B4⟩ := chk_some A9
      obtain ⟨m3, m4, K3, B5, B6, B7⟩ := i4.app (k := 3) rfl d5 (ints [1]) 1 (ints_len1 rfl)
      have B8 := B6.cellsEq (k := 3) (us' := ints (a3 ++ [1])) (ints_app _ _) rfl
      have B9 : Sb m3 ((a3 ++ [1]).length) m4 1 := (show a3.length + 1 = (a3 ++ [1]).length from len_app (a := a3) (b := [1]) rfl rfl) ▸ B7
      have C0 := B8.drop 0 rfl
      refine AO.c rfl (s_app (by_ := 8) (us := ints a3) (vs := ints [1]) underlying27 underlying27 typeInfo2 sizeOf2 zeroValue2 rfl rfl rfl rfl rfl rfl rfl (i4.buf (k := 3) rfl d5 (ints_len1 rfl)) (i4.oview (k := 0) rfl (Sb.lit (n := 1) (by decide)) (ints_len1 rfl)) (ints_len1 rfl) ints_one B3 B5 (show a3.length + 1 = (a3 ++ [1]).length from len_app (a := a3) (b := [1]) rfl rfl)) (AO.a rfl rfl (AO.nil ?_))
      have C1 := C0.front 2 rfl
      have C2 := C1.front 1 rfl
      have C3 := C2.front 2 rfl
      exact ⟨c4, c5, (a3 ++ [1]), c9, m3, m4, (some_inj B4), C3, (h9.mono b6), (e4.mono b6), (i0.mono b6), B9, Sub.k4 rfl rfl rfl rfl (Sub.nil _)⟩
     ·have C4 := bif_f i3 m2
      refine AX.sr (AO.p rfl (p_eql rfl rfl) (AO.a rfl rfl (AO.nil ?_)))
      obtain ⟨C5, m5, C6⟩ := bnd_some C4
      refine AX.cutS (fun t' H' => ∃ (f1 : Int) (f2 : Int) (e5 : List Int) (d8 : Sg), (f1, f2, e5) = C5 ∧ St M0 H H' [d8, [(a1, AObj.row false ([.slice p_a0 a0.length c_a0, .int .i64 f1, .int .u64 f2]))], oseg b2 (ints e5)] ∧ Pin d8 F ∧ PV d8 p_a0 c_a0 a0 ∧ PT d8 a4 a5 b8 ∧ e5.length = a3.length ∧ Am.Sub [(5, .pointer (some ⟨a1, 0, none⟩)), (6, .int .i64 a2), (7, .slice a4 a9.length a5), (8, .slice b2 a3.length e2)] t') ?_ ?_
      ·skip
       refine AX.cond rfl (fun i5 => ?_) (fun i5 => ?_)
       ·have C7 := bif_t i5 m5
        refine AX.region (AO.m rfl rfl (AO.m rfl rfl (AO.m rfl rfl ?_)))
        obtain ⟨m6, c8, C8, C9, D0⟩ := i2.new (AObj.row false (ints [0, a2, (-1)]))
        refine AO.c rfl (s_buildInts (i := c8) (vs := [(0, .int .i64 0), (1, .int .i64 a2), (2, .int .i64 (-1))]) (xs := [0, a2, (-1)]) underlying27 sizeOf2 zeroValue2 rfl rfl (by decide) rfl rfl C8 C9) ?_
        have D1 := D0.front 2 rfl
        have D2 := D1.front 1 rfl
        have D3 := D2.front 2 rfl
        have i6 : St M0 H m6 [[(a1, AObj.row false ([.slice p_a0 a0.length c_a0, .int .i64 c4, .int .u64 c5]))], [(c8, AObj.row false (ints [0, a2, (-1)]))], c9, oseg b2 (ints a3)] := D3
        obtain ⟨⟨f3, i7, i8⟩, D4, D5⟩ := bnd_some C7
        obtain ⟨_, K4, D6, m7, rfl, D7, i9⟩ := W_spec_l01Pick fu m6 c9 a1 p_a0 c_a0 a0 (e4.mono b6) c4 c5 (some (Addr.mk c8 0 none)) 3 3 [0, a2, (-1)] rfl (Sb.lit (n := 3) (by decide)) (St.fnodup (A := [[(a1, AObj.row false ([.slice p_a0 a0.length c_a0, .int .i64 c4, .int .u64 c5]))], [(c8, AObj.row false (ints [0, a2, (-1)]))], c9]) i6) (St.fmem (A := [[(a1, AObj.row false ([.slice p_a0 a0.length c_a0, .int .i64 c4, .int .u64 c5]))], [(c8, AObj.row false (ints [0, a2, (-1)]))], c9]) i6) f3 i7 i8 D4
        have m8 := St.callM (A := [[(a1, AObj.row false ([.slice p_a0 a0.length c_a0, .int .i64 c4, .int .u64 c5]))], [(c8, AObj.row false (ints [0, a2, (-1)]))], c9]) i6 D7 (fun j h => h)
        refine AO.c rfl (o_call (vs := [.pointer (some ⟨a1, 0, none⟩), .slice (some (Addr.mk c8 0 none)) 3 3]) rfl Tryz.call45 D6) ?_
        obtain ⟨e6, D8⟩ := chk_some D5
        refine AO.p rfl (s_indexV (q := 0) underlying27 sizeOf2 rfl (d5.at (inR_pos e6)) rfl e6 rfl) ?_
        obtain ⟨D9, E0, E1⟩ := m8.oset (k := 3) (p := b2) rfl (d5.at (inR_pos e6)) (ints (a3.set 0 f3))
        have E2 : St M0 H D9 [[(a1, AObj.row false ([.slice p_a0 a0.length c_a0, .int .i64 i7, .int .u64 i8]))], [(c8, AObj.row false (ints [0, a2, (-1)]))], m7, oseg b2 (ints (a3.set 0 f3))] := E1
        refine AO.s (s_store sizeOf2 rfl rfl rfl (m8.oat (k := 3) rfl (d5.at (inR_pos e6))) (lt_len (ints_len rfl) (inR_lt e6)) ((congrArg (fun l => List.set _ _ (AObj.row false l)) (ints_set _ _ _)).trans E0)) (AO.nil ?_)
        have E3 := E2.front 3 rfl
        have E4 := E3.front 1 rfl
        have E5 := E4.front 3 rfl
        have E6 := E5.keep 3
        exact ⟨i7, i8, (a3.set 0 f3), m7, (some_inj D8), E6, ((h9.mono b6).mono i9), ((e4.mono b6).mono i9), ((i0.mono b6).mono i9), (len_set rfl), Sub.k4 rfl rfl rfl rfl (Sub.nil _)⟩
       ·have E7 := bif_f i5 m5
        refine AX.skip ?_
        have E8 := i2.front 2 rfl
        have E9 := E8.front 1 rfl
        have F0 := E9.front 2 rfl
        exact ⟨c4, c5, a3, c9, (some_inj E7), F0, (h9.mono b6), (e4.mono b6), (i0.mono b6), rfl, Sub.k4 rfl rfl rfl rfl (Sub.nil _)⟩
      ·rintro t' K5 ⟨f1, f2, e5, d8, rfl, F1, F2, F3, F4, m9, F5⟩
       refine ⟨_, F5, ?_⟩
       have F6 := F1.front 2 rfl
       have F7 := F6.front 2 rfl
       have F8 := F7.front 2 rfl
       exact ⟨f1, f2, e5, d8, b2, e2, (some_inj C6), F8, F2, F3, F4, (Eq.symm m9 ▸ d5), Sub.k4 rfl rfl rfl (congrArg some (sl_n (Eq.symm m9))) (Sub.nil _)⟩
    ·rintro t' n0 ⟨c6, c7, d6, b7, d7, f0, rfl, F9, G0, G1, G2, G3, G4⟩
     refine ⟨_, G4, ?_⟩
     refine AX.sr (AO.m rfl rfl (AO.m rfl rfl (AO.m rfl rfl ?_)))
     have G5 := F9.front 0 rfl
     have G6 := G5.front 1 rfl
     have j0 : St M0 H n0 [[(a1, AObj.row false ([.slice p_a0 a0.length c_a0, .int .i64 c6, .int .u64 c7]))], b7, oseg d7 (ints d6)] := G6
     obtain ⟨⟨G7, G8, G9, H0⟩, H1, H2⟩ := bnd_some A8
     obtain ⟨_, K6, H3, H4, H5, H6, H7, rfl, H8, H9, I0, I1, I2⟩ := W_spec_l03Bad fu n0 b7 a2 a4 a5 b8 a9 f7 G2 a1 p_a0 c_a0 a0 G1 c6 c7 (St.fnodup (A := [[(a1, AObj.row false ([.slice p_a0 a0.length c_a0, .int .i64 c6, .int .u64 c7]))], b7]) j0) (St.fmem (A := [[(a1, AObj.row false ([.slice p_a0 a0.length c_a0, .int .i64 c6, .int .u64 c7]))], b7]) j0) G7 G8 G9 H0 H1
     have I3 := St.callM (A := [[(a1, AObj.row false ([.slice p_a0 a0.length c_a0, .int .i64 c6, .int .u64 c7]))], b7]) j0 H8 (fun j h => h)
     refine AO.c rfl (o_call (vs := [.pointer (some ⟨a1, 0, none⟩), .int .i64 a2, .slice a4 a9.length a5]) rfl Tryz.call55 H3) (AO.m rfl rfl (AO.p rfl (p_extract rfl rfl) (AO.p rfl (p_extract rfl rfl) (AO.a rfl rfl (AO.a rfl rfl (AO.nil (AX.sr (AO.m rfl rfl (AO.m rfl rfl (AO.m rfl rfl (AO.a rfl rfl (AO.a rfl rfl ?_))))))))))))
     refine AO.a rfl rfl (AO.nil (AX.ret ?_))
     obtain ⟨rfl, I4⟩ := Prod.mk.inj (some_inj H2)
     obtain ⟨rfl, rfl⟩ := Prod.mk.inj I4
     have I5 := I3.front 3 rfl
     have I6 := I5.front 4 rfl
     have I7 := I6.front 3 rfl
     have I8 := I7.front 3 rfl
     have I9 := I8.keep 4
     exact ⟨.inr rfl, _, res3 rfl (rv_tmp rfl) (rv_tmp rfl) (rv_tmp rfl), H4, H5, H6, d7, f0, H7, rfl, I9, H9, I0, I1, G3, (G0.mono I2)⟩
set_option maxHeartbeats 4000000 in
theorem W_spec_DrawAreOrthogonal (fu : Nat) (H : AHeap) (F : Sg) (p_a0 : Option Addr) (c_a0 : Nat) (a0 : List Int) (q_a0 : PV F p_a0 c_a0 a0) (hn : (([F] : List Sg).flatten.map (·.1)).Nodup) (ho : ∀ x ∈ ([F] : List Sg).flatten, x.1 < H.length ∧ hget H x.1 = x.2) (r0 : Int) (r1 : List (List Int)) (r2 : List (List Int)) (hd : D_spec_DrawAreOrthogonal fu a0 = some (r0, r1, r2)) : ∃ v G', ACall Tryz.prog 21 [.slice p_a0 a0.length c_a0] H v G' ∧ ∃ (p_r1 : Option Addr) (c_r1 : Nat) (T_r1 : Tb) (p_r2 : Option Addr) (c_r2 : Nat) (T_r2 : Tb) (F' : Sg), (v = .tuple #[.int .i64 r0, .slice p_r1 r1.length c_r1, .slice p_r2 r2.length c_r2]) ∧ St (([F] : List Sg).flatten.map (·.1)) H G' [oseg p_r1 (tcells T_r1), tseg T_r1, oseg p_r2 (tcells T_r2), tseg T_r2, F'] ∧ Sb p_r1 r1.length c_r1 1 ∧ trows T_r1 = r1 ∧ TSb T_r1 ∧ Sb p_r2 r2.length c_r2 1 ∧ trows T_r2 = r2 ∧ TSb T_r2 ∧ Pin F' F := by
 refine ACall.bodyX (args := [.slice p_a0 a0.length c_a0]) (N := 45) [(0, .slice p_a0 a0.length c_a0)] (fun v G' => ∃ (p_r1 : Option Addr) (c_r1 : Nat) (T_r1 : Tb) (p_r2 : Option Addr) (c_r2 : Nat) (T_r2 : Tb) (F' : Sg), (v = .tuple #[.int .i64 r0, .slice p_r1 r1.length c_r1, .slice p_r2 r2.length c_r2]) ∧ St (([F] : List Sg).flatten.map (·.1)) H G' [oseg p_r1 (tcells T_r1), tseg T_r1, oseg p_r2 (tcells T_r2), tseg T_r2, F'] ∧ Sb p_r1 r1.length c_r1 1 ∧ trows T_r1 = r1 ∧ TSb T_r1 ∧ Sb p_r2 r2.length c_r2 1 ∧ trows T_r2 = r2 ∧ TSb T_r2 ∧ Pin F' F) Tryz.func21 rfl rfl rfl rfl ?_
 unfold D_spec_DrawAreOrthogonal at hd
 have S0 := St.initF hn ho
 generalize hM0 : (([F] : List Sg).flatten.map (·.1)) = M0 at S0 ⊢
 refine AX.sr (AO.a rfl rfl (AO.a rfl rfl (AO.a rfl rfl (AO.nil (AX.sr (AO.m rfl rfl ?_))))))
 have g4 := S0.front 0 rfl
 have d4 : St M0 H H [F] := g4
 obtain ⟨⟨b9, c0⟩, g5, g6⟩ := bnd_some hd
 obtain ⟨_, e8, g7, a1, c4, rfl, g8, a7⟩ := W_spec_l01From fu H F p_a0 c_a0 a0 q_a0 (St.fnodup (A := [F]) d4) (St.fmem (A := [F]) d4) b9 c0 g5
 have g9 := St.callM (A := [F]) d4 g8 (fun j h => h)
 refine AO.c rfl (o_call (vs := [.slice p_a0 a0.length c_a0]) rfl Tryz.call46 g7) (AO.a rfl rfl (AO.nil (AX.sr (AO.m rfl rfl ?_))))
 have h0 := g9.front 1 rfl
 have h1 := h0.front 1 rfl
 have d5 : St M0 H e8 [[(a1, AObj.row false ([.slice p_a0 a0.length c_a0, .int .i64 b9, .int .u64 c0]))], c4] := h1
 obtain ⟨⟨a2, b6, b7, b8⟩, h2, h3⟩ := bnd_some g6
 obtain ⟨_, e9, h4, a8, a9, d0, c5, rfl, h5, f0, d1, b0⟩ := W_spec_l03With fu e8 c4 a1 p_a0 c_a0 a0 (q_a0.mono a7) b9 c0 (St.fnodup (A := [[(a1, AObj.row false ([.slice p_a0 a0.length c_a0, .int .i64 b9, .int .u64 c0]))], c4]) d5) (St.fmem (A := [[(a1, AObj.row false ([.slice p_a0 a0.length c_a0, .int .i64 b9, .int .u64 c0]))], c4]) d5) a2 b6 b7 b8 h2
 have h6 := St.callM (A := [[(a1, AObj.row false ([.slice p_a0 a0.length c_a0, .int .i64 b9, .int .u64 c0]))], c4]) d5 h5 (fun j h => h)
 refine AO.c rfl (o_call (vs := [.pointer (some ⟨a1, 0, none⟩)]) rfl Tryz.call52 h4) (AO.m rfl rfl (AO.p rfl (p_extract rfl rfl) (AO.p rfl (p_extract rfl rfl) (AO.a rfl rfl (AO.a rfl rfl (AO.nil (AX.sr (AO.m rfl rfl (AO.m rfl rfl (AO.m rfl rfl ?_))))))))))
 obtain ⟨h7, h8⟩ := chk_some h3
 refine AO.p rfl (p_subE rfl rfl h7) ?_
 have h9 := h6.front 1 rfl
 have d6 : St M0 H e9 [c5, [(a1, AObj.row false ([.slice p_a0 a0.length c_a0, .int .i64 b7, .int .u64 b8]))]] := h9
 obtain ⟨d7, i0, i1⟩ := bnd_some h8
 obtain ⟨_, i2, i3, f1, f2, i4, c6, rfl, i5, f3, f4, a3⟩ := W_spec_l03Multiple fu e9 c5 a2 a8 a9 d0 b6 f0 d1 (a2 - 1) (St.fnodup (A := [c5]) d6) (St.fmem (A := [c5]) d6) d7 i0
 have d8 := St.callM (A := [c5]) d6 i5 (fun j h => h)
 refine AO.c rfl (o_call (vs := [.int .i64 a2, .slice a8 b6.length a9, .int .i64 (a2 - 1)]) rfl Tryz.call59 i3) ?_
 obtain ⟨f5, i6, i7⟩ := bnd_some i1
 obtain ⟨_, f6, i8, d9, i9, c7, rfl, j0, j1, j2, j3⟩ := W_spec_l03Own fu i2 f1 f2 i4 d7 f3 (d8.ptwview (k := 0) rfl f4 (tlen f3)) (d8.prwview (k := 0) rfl (f4).rs) f5 i6
 have j4 := d8.call j0
 refine AO.c rfl (o_call (vs := [.slice f1 d7.length f2]) rfl Tryz.call58 i8) (AO.a rfl rfl (AO.nil (AX.seq (AX.sr (AO.m rfl rfl ?_)))))
 have j5 := j4.front 2 rfl
 have j6 := j5.front 3 rfl
 have e0 : St M0 H f6 [[(a1, AObj.row false ([.slice p_a0 a0.length c_a0, .int .i64 b7, .int .u64 b8]))], c6, oseg d9 (tcells c7), tseg c7] := j6
 obtain ⟨⟨j7, b1, b2⟩, j8, j9⟩ := bnd_some i7
 obtain ⟨_, e1, k0, a4, rfl, k1, a5⟩ := W_spec_l01Next fu f6 c6 3 a1 p_a0 c_a0 a0 (((q_a0.mono a7).mono b0).mono a3) b7 b8 (St.fnodup (A := [[(a1, AObj.row false ([.slice p_a0 a0.length c_a0, .int .i64 b7, .int .u64 b8]))], c6]) e0) (St.fmem (A := [[(a1, AObj.row false ([.slice p_a0 a0.length c_a0, .int .i64 b7, .int .u64 b8]))], c6]) e0) j7 b1 b2 j8
 have e2 := St.callM (A := [[(a1, AObj.row false ([.slice p_a0 a0.length c_a0, .int .i64 b7, .int .u64 b8]))], c6]) e0 k1 (fun j h => h)
 refine AO.c rfl (o_call (vs := [.pointer (some ⟨a1, 0, none⟩), .int .i64 3]) rfl Tryz.call53 k0) (AO.nil (AX.block (AX.sr (AO.p rfl (p_eql rfl rfl) (AO.a rfl rfl (AO.nil ?_))))))
 obtain ⟨k2, f7, k3⟩ := bnd_some j9
 refine AX.cutS (fun t' H' => ∃ (b3 : Int) (b4 : Int) (c8 : List (List Int)) (a6 : Sg) (c1 : Option Addr) (d2 : Nat) (b5 : Tb), (b3, b4, c8) = k2 ∧ St M0 H H' [a6, [(a1, AObj.row false ([.slice p_a0 a0.length c_a0, .int .i64 b3, .int .u64 b4]))], oseg c1 (tcells b5), tseg b5] ∧ Pin a6 F ∧ PV a6 p_a0 c_a0 a0 ∧ PT a6 a8 a9 d0 ∧ trows b5 = c8 ∧ TSb b5 ∧ Sb c1 (c8.length) d2 1 ∧ Am.Sub [(5, .pointer (some ⟨a1, 0, none⟩)), (6, .int .i64 a2), (7, .slice a8 b6.length a9), (8, .slice c1 c8.length d2)] t') ?_ ?_
 ·skip
  refine AX.cond rfl (fun e3 => ?_) (fun e3 => ?_)
  ·have k5 := bif_t e3 f7
   refine AX.region (AO.m rfl rfl (AO.m rfl rfl ?_))
   have k6 := e2.front 1 rfl
   have k7 := k6.front 1 rfl
   have e4 : St M0 H e1 [[(a1, AObj.row false ([.slice p_a0 a0.length c_a0, .int .i64 b1, .int .u64 b2]))], a4, oseg d9 (tcells c7), tseg c7] := k7
   obtain ⟨⟨f8, f9, g0⟩, k8, k9⟩ := bnd_some k5
   obtain ⟨_, t9, l0, l1, l2, l3, l4, rfl, l5, l6, l7, l8, e5⟩ := W_spec_l03DrawOf fu e1 a4 a2 a1 p_a0 c_a0 a0 ((((q_a0.mono a7).mono b0).mono a3).mono a5) b1 b2 (St.fnodup (A := [[(a1, AObj.row false ([.slice p_a0 a0.length c_a0, .int .i64 b1, .int .u64 b2]))], a4]) e4) (St.fmem (A := [[(a1, AObj.row false ([.slice p_a0 a0.length c_a0, .int .i64 b1, .int .u64 b2]))], a4]) e4) f8 f9 g0 k8
   have l9 := St.callM (A := [[(a1, AObj.row false ([.slice p_a0 a0.length c_a0, .int .i64 b1, .int .u64 b2]))], a4]) e4 l5 (fun j h => h)
   refine AO.c rfl (o_call (vs := [.pointer (some ⟨a1, 0, none⟩), .int .i64 a2]) rfl Tryz.call60 l0) (AO.a rfl rfl (AO.nil ?_))
   have m0 := l9.front 1 rfl
   have m1 := m0.front 1 rfl
   have m2 := m1.front 2 rfl
   have m3 := m2.front 3 rfl
   have m4 := m3.keep 4
   exact ⟨f9, g0, f8, l4, l1, l2, l3, (some_inj k9), m4, ((((((Pin.refl F).mono a7).mono b0).mono a3).mono a5).mono e5), (((((q_a0.mono a7).mono b0).mono a3).mono a5).mono e5), (((d1.mono a3).mono a5).mono e5), l7, l8, l6, Sub.k4 rfl rfl rfl rfl (Sub.nil _)⟩
  ·have m5 := bif_f e3 f7
   refine AX.sr (AO.p rfl (p_eql rfl rfl) (AO.a rfl rfl (AO.nil ?_)))
   obtain ⟨m6, g1, m7⟩ := bnd_some m5
   refine AX.cutS (fun t' H' => ∃ (c2 : List (List Int)) (c9 : Option Addr) (d3 : Nat) (c3 : Tb), c2 = m6 ∧ St M0 H H' [a4, [(a1, AObj.row false ([.slice p_a0 a0.length c_a0, .int .i64 b1, .int .u64 b2]))], oseg c9 (tcells c3), tseg c3] ∧ Pin a4 F ∧ PV a4 p_a0 c_a0 a0 ∧ PT a4 a8 a9 d0 ∧ trows c3 = c2 ∧ TSb c3 ∧ Sb c9 (c2.length) d3 1 ∧ Am.Sub [(5, .pointer (some ⟨a1, 0, none⟩)), (6, .int .i64 a2), (7, .slice a8 b6.length a9), (8, .slice c9 c2.length d3)] t') ?_ ?_
   ·skip
    refine AX.cond rfl (fun e6 => ?_) (fun e6 => ?_)
    ·have m8 := bif_t e6 g1
     refine AX.region (AO.m rfl rfl ?_)
     obtain ⟨g2, m9, n0⟩ := bnd_some m8
     obtain ⟨_, u0, n1, n2, n3, n4, rfl, n5, n6, n7, n8⟩ := W_spec_l03Patterned fu e1 a2 g2 m9
     have n9 := e2.call n5
     refine AO.c rfl (o_call (vs := [.int .i64 a2]) rfl Tryz.call61 n1) (AO.a rfl rfl (AO.nil ?_))
     have o0 := n9.front 1 rfl
     have o1 := o0.front 1 rfl
     have o2 := o1.front 2 rfl
     have o3 := o2.front 3 rfl
     have o4 := o3.keep 4
     exact ⟨g2, n2, n3, n4, (some_inj n0), o4, (((((Pin.refl F).mono a7).mono b0).mono a3).mono a5), ((((q_a0.mono a7).mono b0).mono a3).mono a5), ((d1.mono a3).mono a5), n7, n8, n6, Sub.k4 rfl rfl rfl rfl (Sub.nil _)⟩
    ·have o5 := bif_f e6 g1
     refine AX.skip ?_
     have o6 := e2.front 3 rfl
     have o7 := o6.front 3 rfl
     have o8 := o7.front 2 rfl
     have o9 := o8.front 3 rfl
     exact ⟨f5, d9, i9, c7, (some_inj o5), o9, (((((Pin.refl F).mono a7).mono b0).mono a3).mono a5), ((((q_a0.mono a7).mono b0).mono a3).mono a5), ((d1.mono a3).mono a5), j2, j3, j1, Sub.k4 rfl rfl rfl rfl (Sub.nil _)⟩
   ·rintro t' u1 ⟨c2, c9, d3, c3, rfl, p0, p1, p2, p3, p4, p5, p6, p7⟩
    refine ⟨_, p7, ?_⟩
    have p8 := p0.front 3 rfl
    have p9 := p8.front 3 rfl
    have q0 := p9.front 3 rfl
    have q1 := q0.front 3 rfl
    exact ⟨b1, b2, c2, a4, c9, d3, c3, (some_inj m7), q1, p1, p2, p3, p4, p5, p6, Sub.k4 rfl rfl rfl rfl (Sub.nil _)⟩
 ·rintro t' g3 ⟨b3, b4, c8, a6, c1, d2, b5, rfl, q2, q3, q4, q5, q6, q7, q8, q9⟩
  refine ⟨_, q9, ?_⟩
  refine AX.sr (AO.m rfl rfl (AO.m rfl rfl (AO.m rfl rfl ?_)))
  have r3 := q2.front 0 rfl
  have r4 := r3.front 1 rfl
  have e7 : St M0 H g3 [[(a1, AObj.row false ([.slice p_a0 a0.length c_a0, .int .i64 b3, .int .u64 b4]))], a6, oseg c1 (tcells b5), tseg b5] := r4
  obtain ⟨⟨r5, r6, r7, r8⟩, r9, s0⟩ := bnd_some k3
  obtain ⟨_, u2, s1, s2, s3, s4, s5, rfl, s6, s7, s8, s9, t0⟩ := W_spec_l03Bad fu g3 a6 a2 a8 a9 d0 b6 f0 q5 a1 p_a0 c_a0 a0 q4 b3 b4 (St.fnodup (A := [[(a1, AObj.row false ([.slice p_a0 a0.length c_a0, .int .i64 b3, .int .u64 b4]))], a6]) e7) (St.fmem (A := [[(a1, AObj.row false ([.slice p_a0 a0.length c_a0, .int .i64 b3, .int .u64 b4]))], a6]) e7) r5 r6 r7 r8 r9
  have t1 := St.callM (A := [[(a1, AObj.row false ([.slice p_a0 a0.length c_a0, .int .i64 b3, .int .u64 b4]))], a6]) e7 s6 (fun j h => h)
  refine AO.c rfl (o_call (vs := [.pointer (some ⟨a1, 0, none⟩), .int .i64 a2, .slice a8 b6.length a9]) rfl Tryz.call55 s1) (AO.m rfl rfl (AO.p rfl (p_extract rfl rfl) (AO.p rfl (p_extract rfl rfl) (AO.a rfl rfl (AO.a rfl rfl (AO.nil (AX.sr (AO.m rfl rfl (AO.m rfl rfl (AO.m rfl rfl (AO.a rfl rfl (AO.a rfl rfl ?_))))))))))))
  refine AO.a rfl rfl (AO.nil (AX.ret ?_))
  obtain ⟨rfl, t2⟩ := Prod.mk.inj (some_inj s0)
  obtain ⟨rfl, rfl⟩ := Prod.mk.inj t2
  have t3 := t1.front 3 rfl
  have t4 := t3.front 5 rfl
  have t5 := t4.front 5 rfl
  have t6 := t5.front 4 rfl
  have t7 := t6.front 4 rfl
  have t8 := t7.keep 5
  exact ⟨.inr rfl, _, res3 rfl (rv_tmp rfl) (rv_tmp rfl) (rv_tmp rfl), s2, s3, s4, c1, d2, b5, s5, rfl, t8, s7, s8, s9, q8, q6, q7, (q3.mono t0)⟩
set_option maxHeartbeats 4000000 in
theorem W_spec_DrawFirstStrong (fu : Nat) (H : AHeap) (F : Sg) (p_a0 : Option Addr) (c_a0 : Nat) (a0 : List Int) (q_a0 : PV F p_a0 c_a0 a0) (hn : (([F] : List Sg).flatten.map (·.1)).Nodup) (ho : ∀ x ∈ ([F] : List Sg).flatten, x.1 < H.length ∧ hget H x.1 = x.2) (r0 : Int) (hd : D_spec_DrawFirstStrong fu a0 = some r0) : ∃ v G', ACall Tryz.prog 14 [.slice p_a0 a0.length c_a0] H v G' ∧ ∃ (F' : Sg), (v = .int .i64 r0) ∧ St (([F] : List Sg).flatten.map (·.1)) H G' [F'] ∧ Pin F' F := by
 refine ACall.bodyX (args := [.slice p_a0 a0.length c_a0]) (N := 7) [(0, .slice p_a0 a0.length c_a0)] (fun v G' => ∃ (F' : Sg), (v = .int .i64 r0) ∧ St (([F] : List Sg).flatten.map (·.1)) H G' [F'] ∧ Pin F' F) Tryz.func14 rfl rfl rfl rfl ?_
 unfold D_spec_DrawFirstStrong at hd
 have S0 := St.initF hn ho
 generalize hM0 : (([F] : List Sg).flatten.map (·.1)) = M0 at S0 ⊢
 refine AX.sr (AO.a rfl rfl (AO.nil (AX.sr (AO.m rfl rfl ?_))))
 have b0 := S0.front 0 rfl
 have a6 : St M0 H H [F] := b0
 obtain ⟨⟨a2, a3⟩, b1, b2⟩ := bnd_some hd
 obtain ⟨_, d4, b3, a4, a5, rfl, b4, a8⟩ := W_spec_l01From fu H F p_a0 c_a0 a0 q_a0 (St.fnodup (A := [F]) a6) (St.fmem (A := [F]) a6) a2 a3 b1
 have b5 := St.callM (A := [F]) a6 b4 (fun j h => h)
 refine AO.c rfl (o_call (vs := [.slice p_a0 a0.length c_a0]) rfl Tryz.call46 b3) ?_
 obtain ⟨a9, a1, b6, b7, b8⟩ := b5.new (AObj.row false (ints [3, 5, 7, 9, 11, 13, 1, 6, 15]))
 refine AO.c rfl (s_buildInts (i := a1) (vs := [(0, .int .i64 3), (1, .int .i64 5), (2, .int .i64 7), (3, .int .i64 9), (4, .int .i64 11), (5, .int .i64 13), (6, .int .i64 1), (7, .int .i64 6), (8, .int .i64 15)]) (xs := [3, 5, 7, 9, 11, 13, 1, 6, 15]) underlying27 sizeOf2 zeroValue2 rfl rfl (by decide) rfl rfl b6 b7) ?_
 have b9 := b8.front 2 rfl
 have c0 := b9.front 1 rfl
 have c1 := c0.front 2 rfl
 have a7 : St M0 H a9 [[(a4, AObj.row false ([.slice p_a0 a0.length c_a0, .int .i64 a2, .int .u64 a3]))], [(a1, AObj.row false (ints [3, 5, 7, 9, 11, 13, 1, 6, 15]))], a5] := c1
 obtain ⟨⟨c2, c3, c4⟩, c5, c6⟩ := bnd_some b2
 obtain ⟨_, d5, c7, c8, rfl, c9, d0⟩ := W_spec_l01Pick fu a9 a5 a4 p_a0 c_a0 a0 (q_a0.mono a8) a2 a3 (some (Addr.mk a1 0 none)) 9 9 [3, 5, 7, 9, 11, 13, 1, 6, 15] rfl (Sb.lit (n := 9) (by decide)) (St.fnodup (A := [[(a4, AObj.row false ([.slice p_a0 a0.length c_a0, .int .i64 a2, .int .u64 a3]))], [(a1, AObj.row false (ints [3, 5, 7, 9, 11, 13, 1, 6, 15]))], a5]) a7) (St.fmem (A := [[(a4, AObj.row false ([.slice p_a0 a0.length c_a0, .int .i64 a2, .int .u64 a3]))], [(a1, AObj.row false (ints [3, 5, 7, 9, 11, 13, 1, 6, 15]))], a5]) a7) c2 c3 c4 c5
 have d1 := St.callM (A := [[(a4, AObj.row false ([.slice p_a0 a0.length c_a0, .int .i64 a2, .int .u64 a3]))], [(a1, AObj.row false (ints [3, 5, 7, 9, 11, 13, 1, 6, 15]))], a5]) a7 c9 (fun j h => h)
 refine AO.c rfl (o_call (vs := [.pointer (some ⟨a4, 0, none⟩), .slice (some (Addr.mk a1 0 none)) 9 9]) rfl Tryz.call45 c7) (AO.a rfl rfl (AO.nil (AX.ret ?_)))
 obtain rfl := some_inj c6
 have d2 := d1.front 2 rfl
 have d3 := d2.keep 1
 exact ⟨.inr rfl, _, res1 rfl (rv_tmp rfl), c8, rfl, d3, (((Pin.refl F).mono a8).mono d0)⟩
set_option maxHeartbeats 4000000 in
theorem W_spec_DrawCountStarters (fu : Nat) (H : AHeap) (F : Sg) (p_a0 : Option Addr) (c_a0 : Nat) (a0 : List Int) (q_a0 : PV F p_a0 c_a0 a0) (hn : (([F] : List Sg).flatten.map (·.1)).Nodup) (ho : ∀ x ∈ ([F] : List Sg).flatten, x.1 < H.length ∧ hget H x.1 = x.2) (r0 : Int) (hd : D_spec_DrawCountStarters fu a0 = some r0) : ∃ v G', ACall Tryz.prog 23 [.slice p_a0 a0.length c_a0] H v G' ∧ ∃ (F' : Sg), (v = .int .i64 r0) ∧ St (([F] : List Sg).flatten.map (·.1)) H G' [F'] ∧ Pin F' F := by
 refine ACall.bodyX (args := [.slice p_a0 a0.length c_a0]) (N := 7) [(0, .slice p_a0 a0.length c_a0)] (fun v G' => ∃ (F' : Sg), (v = .int .i64 r0) ∧ St (([F] : List Sg).flatten.map (·.1)) H G' [F'] ∧ Pin F' F) Tryz.func23 rfl rfl rfl rfl ?_
 unfold D_spec_DrawCountStarters at hd
 have S0 := St.initF hn ho
 generalize hM0 : (([F] : List Sg).flatten.map (·.1)) = M0 at S0 ⊢
 refine AX.sr (AO.a rfl rfl (AO.nil (AX.sr (AO.m rfl rfl ?_))))
 have b0 := S0.front 0 rfl
 have a6 : St M0 H H [F] := b0
 obtain ⟨⟨a2, a3⟩, b1, b2⟩ := bnd_some hd
 obtain ⟨_, d4, b3, a4, a5, rfl, b4, a8⟩ := W_spec_l01From fu H F p_a0 c_a0 a0 q_a0 (St.fnodup (A := [F]) a6) (St.fmem (A := [F]) a6) a2 a3 b1
 have b5 := St.callM (A := [F]) a6 b4 (fun j h => h)
 refine AO.c rfl (o_call (vs := [.slice p_a0 a0.length c_a0]) rfl Tryz.call46 b3) ?_
 obtain ⟨a9, a1, b6, b7, b8⟩ := b5.new (AObj.row false (ints [3, 5, 7, 7, 9, 9, 11, 1, 8, 15]))
 refine AO.c rfl (s_buildInts (i := a1) (vs := [(0, .int .i64 3), (1, .int .i64 5), (2, .int .i64 7), (3, .int .i64 7), (4, .int .i64 9), (5, .int .i64 9), (6, .int .i64 11), (7, .int .i64 1), (8, .int .i64 8), (9, .int .i64 15)]) (xs := [3, 5, 7, 7, 9, 9, 11, 1, 8, 15]) underlying27 sizeOf2 zeroValue2 rfl rfl (by decide) rfl rfl b6 b7) ?_
 have b9 := b8.front 2 rfl
 have c0 := b9.front 1 rfl
 have c1 := c0.front 2 rfl
 have a7 : St M0 H a9 [[(a4, AObj.row false ([.slice p_a0 a0.length c_a0, .int .i64 a2, .int .u64 a3]))], [(a1, AObj.row false (ints [3, 5, 7, 7, 9, 9, 11, 1, 8, 15]))], a5] := c1
 obtain ⟨⟨c2, c3, c4⟩, c5, c6⟩ := bnd_some b2
 obtain ⟨_, d5, c7, c8, rfl, c9, d0⟩ := W_spec_l01Pick fu a9 a5 a4 p_a0 c_a0 a0 (q_a0.mono a8) a2 a3 (some (Addr.mk a1 0 none)) 10 10 [3, 5, 7, 7, 9, 9, 11, 1, 8, 15] rfl (Sb.lit (n := 10) (by decide)) (St.fnodup (A := [[(a4, AObj.row false ([.slice p_a0 a0.length c_a0, .int .i64 a2, .int .u64 a3]))], [(a1, AObj.row false (ints [3, 5, 7, 7, 9, 9, 11, 1, 8, 15]))], a5]) a7) (St.fmem (A := [[(a4, AObj.row false ([.slice p_a0 a0.length c_a0, .int .i64 a2, .int .u64 a3]))], [(a1, AObj.row false (ints [3, 5, 7, 7, 9, 9, 11, 1, 8, 15]))], a5]) a7) c2 c3 c4 c5
 have d1 := St.callM (A := [[(a4, AObj.row false ([.slice p_a0 a0.length c_a0, .int .i64 a2, .int .u64 a3]))], [(a1, AObj.row false (ints [3, 5, 7, 7, 9, 9, 11, 1, 8, 15]))], a5]) a7 c9 (fun j h => h)
 refine AO.c rfl (o_call (vs := [.pointer (some ⟨a4, 0, none⟩), .slice (some (Addr.mk a1 0 none)) 10 10]) rfl Tryz.call45 c7) (AO.a rfl rfl (AO.nil (AX.ret ?_)))
 obtain rfl := some_inj c6
 have d2 := d1.front 2 rfl
 have d3 := d2.keep 1
 exact ⟨.inr rfl, _, res1 rfl (rv_tmp rfl), c8, rfl, d3, (((Pin.refl F).mono a8).mono d0)⟩
end Go.Proofs.YtdafmafigcljkaaGreat
