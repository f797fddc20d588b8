
/-
 The program computes that, printed by a program. No condition.
-/
import Derived.Test.YtdafmafigcljkaaGreatDE
import Derived.Test.YtdafmafigcljkaaGreatWC
import Derived.Test.YtdafmafigcljkaaGreatProg
import Derived.KernelRfl
namespace Go.Proofs.YtdafmafigcljkaaGreat
open Go Go.RowKit Am Go.Proofs.Tryz
set_option linter.unusedVariables false
set_option linter.unusedSimpArgs false
set_option maxRecDepth 20000
set_option maxHeartbeats 4000000 in
theorem W_spec_l03Search : ∀ (fu : Nat) (H : AHeap) (F : Sg) (a0 : Int) (p_a1 : Option Addr) (c_a1 : Nat) (T_a1 : Tb) (a1 : List (List Int)) (t_a1 : trows T_a1 = a1) (q_a1 : PT F p_a1 c_a1 T_a1) (a2 : Bool) (a3 : Int) (hn : (([F] : List Sg).flatten.map (·.1)).Nodup) (ho : ∀ x ∈ ([F] : List Sg).flatten, x.1 < H.length ∧ hget H x.1 = x.2) (r0 : List (List (List Int))) (hd : D_spec_l03Search fu a0 a1 a2 a3 = some r0), ∃ v G', ACall Tryz.prog 51 [.int .i64 a0, .slice p_a1 a1.length c_a1, .bool a2, .int .i64 a3] H v G' ∧ ∃ (p_r0 : Option Addr) (c_r0 : Nat) (T_r0 : Tb3) (F' : Sg), (v = .slice p_r0 r0.length c_r0) ∧ St (([F] : List Sg).flatten.map (·.1)) H G' [F'] ∧ trows3 T_r0 = r0 ∧ PT3 F' p_r0 c_r0 T_r0 ∧ Pin F' F := by
 intro fu
 induction fu with
 | zero => intros; rename_i hd; cases hd
 | succ fu ih =>
 intro H F a0 p_a1 c_a1 T_a1 a1 t_a1 q_a1 a2 a3 hn ho r0 hd
 refine ACall.bodyX (args := [.int .i64 a0, .slice p_a1 a1.length c_a1, .bool a2, .int .i64 a3]) (N := 172) [(0, .int .i64 a0), (1, .slice p_a1 a1.length c_a1), (2, .bool a2), (3, .int .i64 a3)] (fun v G' => ∃ (p_r0 : Option Addr) (c_r0 : Nat) (T_r0 : Tb3) (F' : Sg), (v = .slice p_r0 r0.length c_r0) ∧ St (([F] : List Sg).flatten.map (·.1)) H G' [F'] ∧ trows3 T_r0 = r0 ∧ PT3 F' p_r0 c_r0 T_r0 ∧ Pin F' F) Tryz.func51 rfl rfl rfl rfl ?_
 unfold D_spec_l03Search at hd
 have S0 := St.initF hn ho
 generalize hM0 : (([F] : List Sg).flatten.map (·.1)) = M0 at S0 ⊢
 refine AX.sr (AO.a rfl rfl (AO.nil (AX.seq (AX.sr (AO.m rfl rfl (AO.p rfl (p_len_slice rfl underlying24) (AO.m rfl rfl ?_)))))))
 obtain ⟨p2, p3⟩ := chk_some hd
 refine AO.p rfl (p_subE rfl rfl p2) ?_
 obtain ⟨p4, j1⟩ := chk_some p3
 refine AO.p rfl (p_quoE rfl rfl p4) (AO.p rfl (p_eql rfl rfl) (AO.nil (AX.cond rfl (fun f3 => ?_) (fun f3 => ?_))))
 ·have p5 := bif_t f3 j1
  refine AX.sr (AO.m rfl rfl ?_)
  obtain ⟨p6, e3, p7, p8, p9⟩ := S0.new (AObj.row false ([.slice p_a1 a1.length c_a1]))
  refine AO.c rfl (s_buildSl (i := e3) (vs := [(0, .slice p_a1 a1.length c_a1)]) (cs := [.slice p_a1 a1.length c_a1]) underlying66 sizeOf24 zeroValue24 rfl rfl (by decide) rfl rfl p7 p8) (AO.a rfl rfl (AO.nil (AX.ret ?_)))
  have q0 := p9.cellsEq (k := 0) (p := some ⟨e3, 0, none⟩) (us' := tcells3 [(p_a1, c_a1, T_a1)]) (congrArg (fun n => [Value.slice p_a1 n c_a1]) (tlen t_a1).symm) rfl
  have q1 := q0.front 1 rfl
  have q2 := q1.front 1 rfl
  have q3 : St M0 H p6 [[(e3, AObj.row false (tcells3 [(p_a1, c_a1, T_a1)]))], F] := q2
  obtain ⟨q4, q5, q6, q7⟩ := q3.poolHdr3 (PA.one q_a1) (Sb.lit (n := 1) (by decide)) (tlen3 (trows3_1 t_a1))
  obtain rfl := some_inj p5
  have q8 := q7.front 0 rfl
  exact ⟨.inr rfl, _, res1 rfl (rv_tmp rfl), (some (Addr.mk e3 0 none)), 1, [(p_a1, c_a1, T_a1)], q4, rfl, q8, (trows3_1 t_a1), q6, ((Pin.refl F).mono q5)⟩
 ·have q9 := bif_f f3 j1
  refine AX.skip (AX.seq (DR.startS [false, false, false, false, false, false, false, false, false] mix (by kernel_rfl) (fun hst => ?_)))
  refine DR.p rfl rfl (p_move rfl) ?_
  obtain ⟨r1, r2⟩ := chk_some q9
  obtain ⟨R7, a8, r3, r4, r5⟩ := S0.new (AObj.row false (bls (List.replicate a0.toNat false)))
  refine DR.a rfl rfl r3 r4 (a_make1 (v := .bool false) (by_ := 1) underlying76 typeInfo4 sizeOf4 zeroValue4 rfl rfl rfl rfl rfl rfl r1 bls_rep) (DR.p rfl rfl (p_move rfl) ?_)
  obtain ⟨r6, r7⟩ := chk_some r2
  obtain ⟨R8, a9, r8, r9, s0⟩ := r5.new (AObj.row false (bls (List.replicate a0.toNat false)))
  refine DR.a rfl rfl r8 r9 (a_make1 (v := .bool false) (by_ := 1) underlying76 typeInfo4 sizeOf4 zeroValue4 rfl rfl rfl rfl rfl rfl r6 bls_rep) (DR.p rfl rfl (p_move rfl) ?_)
  obtain ⟨s1, s2⟩ := chk_some r7
  obtain ⟨R9, b0, s3, s4, s5⟩ := s0.new (AObj.row false (bls (List.replicate a0.toNat false)))
  refine DR.a rfl rfl s3 s4 (a_make1 (v := .bool false) (by_ := 1) underlying76 typeInfo4 sizeOf4 zeroValue4 rfl rfl rfl rfl rfl rfl s1 bls_rep) (DR.p rfl rfl (p_assign rfl) (DR.p rfl rfl (p_assign rfl) (DR.p rfl rfl (p_assign rfl) (DR.nil 9 [] hst (by kernel_rfl) trivial (AX.seq (AX.sr (AO.a rfl rfl (AO.nil ?_))))))))
  obtain ⟨s6, s7, s8⟩ := bnd_some s2
  refine AX.cutS (fun t' H' => ∃ (c3 : List Bool) (c4 : List Bool) (b6 : List Bool), (c3, c4, b6) = s6 ∧ St M0 H H' [F, [(a8, AObj.row false (bls c3))], [(a9, AObj.row false (bls c4))], [(b0, AObj.row false (bls b6))]] ∧ Pin F F ∧ PT F p_a1 c_a1 T_a1 ∧ c3.length = a0.toNat ∧ c4.length = a0.toNat ∧ b6.length = a0.toNat ∧ Am.Sub [(0, .int .i64 a0), (1, .slice p_a1 a1.length c_a1), (2, .bool a2), (3, .int .i64 a3), (9, .slice (some (Addr.mk a8 0 none)) a0.toNat a0.toNat), (10, .slice (some (Addr.mk a9 0 none)) a0.toNat a0.toNat), (11, .slice (some (Addr.mk b0 0 none)) a0.toNat a0.toNat)] t') ?_ ?_
  ·refine AX.block (AX.loopF (fun s' t' H' => ∃ (b2 : List Bool) (b3 : List Bool) (b5 : List Bool) (a4 : Int), (b2, b3, b5, a4) = s' ∧ St M0 H H' [F, [(a8, AObj.row false (bls b2))], [(a9, AObj.row false (bls b3))], [(b0, AObj.row false (bls b5))]] ∧ Pin F F ∧ PT F p_a1 c_a1 T_a1 ∧ b2.length = a0.toNat ∧ b3.length = a0.toNat ∧ b5.length = a0.toNat ∧ Am.Sub [(0, .int .i64 a0), (1, .slice p_a1 a1.length c_a1), (2, .bool a2), (3, .int .i64 a3), (9, .slice (some (Addr.mk a8 0 none)) a0.toNat a0.toNat), (10, .slice (some (Addr.mk a9 0 none)) a0.toNat a0.toNat), (11, .slice (some (Addr.mk b0 0 none)) a0.toNat a0.toNat), (12, .int .i64 a4)] t') s7 ?_ ?_)
   ·skip
    have s9 := s5.front 0 rfl
    have t0 := s9.front 1 rfl
    have t1 := t0.front 2 rfl
    have t2 := t1.front 3 rfl
    exact ⟨(List.replicate a0.toNat false), (List.replicate a0.toNat false), (List.replicate a0.toNat false), 0, rfl, t2, (Pin.refl F), q_a1, len_rep, len_rep, len_rep, Sub.k8 rfl rfl rfl rfl rfl rfl rfl rfl (Sub.nil _)⟩
   ·rintro S1 _ t' S2 ⟨b2, b3, b5, a4, rfl, c8, j2, a5, e4, e5, f4, t3⟩ S3 f5 j3
    refine AX.sub t3 ?_
    unfold D_spec_l03Search_s0 at f5
    refine AX.seq (AX.sr (AO.m rfl rfl (AO.m rfl rfl (AO.p rfl (p_len_slice rfl underlying24) (AO.p rfl (p_lss rfl rfl) (AO.nil (AX.cond rfl (fun f6 => ?_) (fun f6 => ?_))))))))
    ·have t4 := bif_t f6 f5
     refine AX.skip (AX.seq (AX.block (AX.sr (AO.m rfl rfl (AO.m rfl rfl (AO.m rfl rfl ?_))))))
     obtain ⟨j4, t5⟩ := chk_some t4
     obtain ⟨t6, S4, j5, j6⟩ := tget t_a1 (lt_len rfl (inR_lt j4))
     refine AO.p rfl (s_indexV (q := off p_a1 + a4.toNat) underlying24 sizeOf27 rfl ((c8.ptview (k := 0) rfl a5 (tlen t_a1)).p j6) rfl j4 (o1 _ _)) (AO.c rfl (s_load isAgg27 rfl ((c8.ptview (k := 0) rfl a5 (tlen t_a1)).get _ _ j6)) ?_)
     obtain ⟨f7, t7⟩ := chk_some t5
     refine AO.p rfl (s_indexV (q := off t6 + 0) underlying27 sizeOf2 rfl ((TVw.at (c8.prview (k := 0) rfl (a5).rs) j5).p (ints_get (lt_len rfl (inR_lt f7)))) rfl f7 (o1 _ _)) (AO.c rfl (s_load isAgg2 rfl ((TVw.at (c8.prview (k := 0) rfl (a5).rs) j5).get _ _ (ints_get (lt_len rfl (inR_lt f7))))) ?_)
     obtain ⟨j7, t8⟩ := chk_some t7
     refine AO.p rfl (s_indexV (q := (rd (rw_ a1 a4.toNat) 0).toNat) underlying76 sizeOf4 rfl rfl rfl j7 (z1 _)) ?_
     obtain ⟨t9, u0, u1⟩ := c8.set (k := 1) (i := a8) rfl (AObj.row false (bls (b2.set ((rd (rw_ a1 a4.toNat) 0).toNat) true)))
     have d2 : St M0 H t9 [F, [(a8, AObj.row false (bls (b2.set ((rd (rw_ a1 a4.toNat) 0).toNat) true)))], [(a9, AObj.row false (bls b3))], [(b0, AObj.row false (bls b5))]] := u1
     refine AO.s (s_store sizeOf4 rfl rfl rfl (c8.get (k := 1) rfl) (lt_len ((bls_length _).trans e4) (inR_lt j7)) ((congrArg (fun l => List.set _ _ (AObj.row false l)) (bls_set _ _ _)).trans u0)) (AO.nil (AX.sr (AO.m rfl rfl (AO.m rfl rfl (AO.m rfl rfl ?_)))))
     obtain ⟨j8, u2⟩ := chk_some t8
     obtain ⟨u3, S5, j9, k0⟩ := tget t_a1 (lt_len rfl (inR_lt j8))
     refine AO.p rfl (s_indexV (q := off p_a1 + a4.toNat) underlying24 sizeOf27 rfl ((d2.ptview (k := 0) rfl a5 (tlen t_a1)).p k0) rfl j8 (o1 _ _)) (AO.c rfl (s_load isAgg27 rfl ((d2.ptview (k := 0) rfl a5 (tlen t_a1)).get _ _ k0)) ?_)
     obtain ⟨f8, u4⟩ := chk_some u2
     refine AO.p rfl (s_indexV (q := off u3 + 1) underlying27 sizeOf2 rfl ((TVw.at (d2.prview (k := 0) rfl (a5).rs) j9).p (ints_get (lt_len rfl (inR_lt f8)))) rfl f8 (o1 _ _)) (AO.c rfl (s_load isAgg2 rfl ((TVw.at (d2.prview (k := 0) rfl (a5).rs) j9).get _ _ (ints_get (lt_len rfl (inR_lt f8))))) ?_)
     obtain ⟨k3, u5⟩ := chk_some u4
     refine AO.p rfl (s_indexV (q := (rd (rw_ a1 a4.toNat) 1).toNat) underlying76 sizeOf4 rfl rfl rfl k3 (z1 _)) ?_
     obtain ⟨k5, u6, u7⟩ := d2.set (k := 1) (i := a8) rfl (AObj.row false (bls ((b2.set ((rd (rw_ a1 a4.toNat) 0).toNat) true).set ((rd (rw_ a1 a4.toNat) 1).toNat) true)))
     have b7 : St M0 H k5 [F, [(a8, AObj.row false (bls ((b2.set ((rd (rw_ a1 a4.toNat) 0).toNat) true).set ((rd (rw_ a1 a4.toNat) 1).toNat) true)))], [(a9, AObj.row false (bls b3))], [(b0, AObj.row false (bls b5))]] := u7
     refine AO.s (s_store sizeOf4 rfl rfl rfl (d2.get (k := 1) rfl) (lt_len ((bls_length _).trans (len_set e4)) (inR_lt k3)) ((congrArg (fun l => List.set _ _ (AObj.row false l)) (bls_set _ _ _)).trans u6)) (AO.nil (AX.seq (DR.startS [false, false, false, false, false, false, false, false, false, false, false, false, false, false, false, true, false, true] mix (by kernel_rfl) (fun hst => ?_))))
     refine DR.p rfl rfl (p_move rfl) (DR.p rfl rfl (p_move rfl) (DR.p rfl rfl (p_move rfl) ?_))
     obtain ⟨k6, u8⟩ := chk_some u5
     obtain ⟨u9, S6, f9, k7⟩ := tget t_a1 (lt_len rfl (inR_lt k6))
     refine DR.p rfl rfl (s_indexV (q := off p_a1 + a4.toNat) underlying24 sizeOf27 rfl ((b7.ptview (k := 0) rfl a5 (tlen t_a1)).p k7) rfl k6 (o1 _ _)) (DR.r rfl rfl (r_load rfl isAgg27) (one_read ((b7.ptview (k := 0) rfl a5 (tlen t_a1)).get _ _ k7) (TVw.at (b7.prview (k := 0) rfl (a5).rs) f9).inn.bel) ?_)
     obtain ⟨g0, v0⟩ := chk_some u8
     refine DR.p rfl rfl (s_indexV (q := off u9 + 1) underlying27 sizeOf2 rfl ((TVw.at (b7.prview (k := 0) rfl (a5).rs) f9).p (ints_get (lt_len rfl (inR_lt g0)))) rfl g0 (o1 _ _)) (DR.r rfl rfl (r_load rfl isAgg2) (one_read ((TVw.at (b7.prview (k := 0) rfl (a5).rs) f9).get _ _ (ints_get (lt_len rfl (inR_lt g0)))) (.of_flat0 rfl)) (DR.p rfl rfl (p_move rfl) (DR.p rfl rfl (p_move rfl) ?_)))
     obtain ⟨k9, v1⟩ := chk_some v0
     obtain ⟨v2, S7, g1, l0⟩ := tget t_a1 (lt_len rfl (inR_lt k9))
     refine DR.p rfl rfl (s_indexV (q := off p_a1 + a4.toNat) underlying24 sizeOf27 rfl ((b7.ptview (k := 0) rfl a5 (tlen t_a1)).p l0) rfl k9 (o1 _ _)) (DR.r rfl rfl (r_load rfl isAgg27) (one_read ((b7.ptview (k := 0) rfl a5 (tlen t_a1)).get _ _ l0) (TVw.at (b7.prview (k := 0) rfl (a5).rs) g1).inn.bel) ?_)
     obtain ⟨g2, v3⟩ := chk_some v1
     refine DR.p rfl rfl (s_indexV (q := off v2 + 0) underlying27 sizeOf2 rfl ((TVw.at (b7.prview (k := 0) rfl (a5).rs) g1).p (ints_get (lt_len rfl (inR_lt g2)))) rfl g2 (o1 _ _)) (DR.r rfl rfl (r_load rfl isAgg2) (one_read ((TVw.at (b7.prview (k := 0) rfl (a5).rs) g1).get _ _ (ints_get (lt_len rfl (inR_lt g2)))) (.of_flat0 rfl)) ?_)
     obtain ⟨v4, v5⟩ := chk_some v3
     refine DR.p rfl rfl (p_subE rfl rfl v4) (DR.p rfl rfl (p_move rfl) ?_)
     obtain ⟨c6, v6, v7⟩ := bnd_some v5
     refine DR.w rfl rfl (o_call (vs := [.int .i64 (rd (rw_ a1 a4.toNat) 1 - (rd (rw_ a1 a4.toNat) 0)), .int .i64 a0]) rfl Tryz.call80 (W_spec_l03Mod fu k5 (rd (rw_ a1 a4.toNat) 1 - (rd (rw_ a1 a4.toNat) 0)) a0 c6 v6)) (Nat.le_refl _) ?_
     obtain ⟨l1, v8⟩ := chk_some v7
     refine DR.p rfl rfl (s_indexV (q := c6.toNat) underlying76 sizeOf4 rfl rfl rfl l1 (z1 _)) ?_
     obtain ⟨l2, l3, v9⟩ := b7.set (k := 2) (i := a9) rfl (AObj.row false (bls (b3.set c6.toNat true)))
     have b8 : St M0 H l2 [F, [(a8, AObj.row false (bls ((b2.set ((rd (rw_ a1 a4.toNat) 0).toNat) true).set ((rd (rw_ a1 a4.toNat) 1).toNat) true)))], [(a9, AObj.row false (bls (b3.set c6.toNat true)))], [(b0, AObj.row false (bls b5))]] := v9
     refine DR.s rfl (s_store sizeOf4 rfl rfl rfl (b7.get (k := 2) rfl) (lt_len ((bls_length _).trans e5) (inR_lt l1)) ((congrArg (fun l => List.set _ _ (AObj.row false l)) (bls_set _ _ _)).trans l3)) (set_le l3) (DR.nil 18 [] hst (by kernel_rfl) trivial (AX.seq (DR.startS [false, false, false, false, false, false, false, false, false, false, false, false, false, false, false, true, false, true] mix (by kernel_rfl) (fun hst => ?_))))
     refine DR.p rfl rfl (p_move rfl) (DR.p rfl rfl (p_move rfl) (DR.p rfl rfl (p_move rfl) ?_))
     obtain ⟨l4, w0⟩ := chk_some v8
     obtain ⟨w1, S8, g3, l5⟩ := tget t_a1 (lt_len rfl (inR_lt l4))
     refine DR.p rfl rfl (s_indexV (q := off p_a1 + a4.toNat) underlying24 sizeOf27 rfl ((b8.ptview (k := 0) rfl a5 (tlen t_a1)).p l5) rfl l4 (o1 _ _)) (DR.r rfl rfl (r_load rfl isAgg27) (one_read ((b8.ptview (k := 0) rfl a5 (tlen t_a1)).get _ _ l5) (TVw.at (b8.prview (k := 0) rfl (a5).rs) g3).inn.bel) ?_)
     obtain ⟨g4, w2⟩ := chk_some w0
     refine DR.p rfl rfl (s_indexV (q := off w1 + 0) underlying27 sizeOf2 rfl ((TVw.at (b8.prview (k := 0) rfl (a5).rs) g3).p (ints_get (lt_len rfl (inR_lt g4)))) rfl g4 (o1 _ _)) (DR.r rfl rfl (r_load rfl isAgg2) (one_read ((TVw.at (b8.prview (k := 0) rfl (a5).rs) g3).get _ _ (ints_get (lt_len rfl (inR_lt g4)))) (.of_flat0 rfl)) (DR.p rfl rfl (p_move rfl) (DR.p rfl rfl (p_move rfl) ?_)))
     obtain ⟨l6, w3⟩ := chk_some w2
     obtain ⟨w4, S9, g5, l7⟩ := tget t_a1 (lt_len rfl (inR_lt l6))
     refine DR.p rfl rfl (s_indexV (q := off p_a1 + a4.toNat) underlying24 sizeOf27 rfl ((b8.ptview (k := 0) rfl a5 (tlen t_a1)).p l7) rfl l6 (o1 _ _)) (DR.r rfl rfl (r_load rfl isAgg27) (one_read ((b8.ptview (k := 0) rfl a5 (tlen t_a1)).get _ _ l7) (TVw.at (b8.prview (k := 0) rfl (a5).rs) g5).inn.bel) ?_)
     obtain ⟨g6, w5⟩ := chk_some w3
     refine DR.p rfl rfl (s_indexV (q := off w4 + 1) underlying27 sizeOf2 rfl ((TVw.at (b8.prview (k := 0) rfl (a5).rs) g5).p (ints_get (lt_len rfl (inR_lt g6)))) rfl g6 (o1 _ _)) (DR.r rfl rfl (r_load rfl isAgg2) (one_read ((TVw.at (b8.prview (k := 0) rfl (a5).rs) g5).get _ _ (ints_get (lt_len rfl (inR_lt g6)))) (.of_flat0 rfl)) ?_)
     obtain ⟨w6, w7⟩ := chk_some w5
     refine DR.p rfl rfl (p_subE rfl rfl w6) (DR.p rfl rfl (p_move rfl) ?_)
     obtain ⟨c9, w8, w9⟩ := bnd_some w7
     refine DR.w rfl rfl (o_call (vs := [.int .i64 (rd (rw_ a1 a4.toNat) 0 - (rd (rw_ a1 a4.toNat) 1)), .int .i64 a0]) rfl Tryz.call80 (W_spec_l03Mod fu l2 (rd (rw_ a1 a4.toNat) 0 - (rd (rw_ a1 a4.toNat) 1)) a0 c9 w8)) (Nat.le_refl _) ?_
     obtain ⟨l8, x0⟩ := chk_some w9
     refine DR.p rfl rfl (s_indexV (q := c9.toNat) underlying76 sizeOf4 rfl rfl rfl l8 (z1 _)) ?_
     obtain ⟨x1, l9, x2⟩ := b8.set (k := 2) (i := a9) rfl (AObj.row false (bls ((b3.set c6.toNat true).set c9.toNat true)))
     have b9 : St M0 H x1 [F, [(a8, AObj.row false (bls ((b2.set ((rd (rw_ a1 a4.toNat) 0).toNat) true).set ((rd (rw_ a1 a4.toNat) 1).toNat) true)))], [(a9, AObj.row false (bls ((b3.set c6.toNat true).set c9.toNat true)))], [(b0, AObj.row false (bls b5))]] := x2
     refine DR.s rfl (s_store sizeOf4 rfl rfl rfl (b8.get (k := 2) rfl) (lt_len ((bls_length _).trans (len_set e5)) (inR_lt l8)) ((congrArg (fun l => List.set _ _ (AObj.row false l)) (bls_set _ _ _)).trans l9)) (set_le l9) (DR.nil 18 [] hst (by kernel_rfl) trivial (DR.startS [false, false, false, false, false, false, false, false, false, false, false, false, false, false, false, false, false, true] mix (by kernel_rfl) (fun hst => ?_)))
     refine DR.p rfl rfl (p_move rfl) (DR.p rfl rfl (p_move rfl) (DR.p rfl rfl (p_move rfl) ?_))
     obtain ⟨m0, x3⟩ := chk_some x0
     obtain ⟨x4, T0, g7, m1⟩ := tget t_a1 (lt_len rfl (inR_lt m0))
     refine DR.p rfl rfl (s_indexV (q := off p_a1 + a4.toNat) underlying24 sizeOf27 rfl ((b9.ptview (k := 0) rfl a5 (tlen t_a1)).p m1) rfl m0 (o1 _ _)) (DR.r rfl rfl (r_load rfl isAgg27) (one_read ((b9.ptview (k := 0) rfl a5 (tlen t_a1)).get _ _ m1) (TVw.at (b9.prview (k := 0) rfl (a5).rs) g7).inn.bel) ?_)
     obtain ⟨g8, x5⟩ := chk_some x3
     refine DR.p rfl rfl (s_indexV (q := off x4 + 0) underlying27 sizeOf2 rfl ((TVw.at (b9.prview (k := 0) rfl (a5).rs) g7).p (ints_get (lt_len rfl (inR_lt g8)))) rfl g8 (o1 _ _)) (DR.r rfl rfl (r_load rfl isAgg2) (one_read ((TVw.at (b9.prview (k := 0) rfl (a5).rs) g7).get _ _ (ints_get (lt_len rfl (inR_lt g8)))) (.of_flat0 rfl)) (DR.p rfl rfl (p_move rfl) (DR.p rfl rfl (p_move rfl) ?_)))
     obtain ⟨m2, x6⟩ := chk_some x5
     obtain ⟨x7, T1, g9, m3⟩ := tget t_a1 (lt_len rfl (inR_lt m2))
     refine DR.p rfl rfl (s_indexV (q := off p_a1 + a4.toNat) underlying24 sizeOf27 rfl ((b9.ptview (k := 0) rfl a5 (tlen t_a1)).p m3) rfl m2 (o1 _ _)) (DR.r rfl rfl (r_load rfl isAgg27) (one_read ((b9.ptview (k := 0) rfl a5 (tlen t_a1)).get _ _ m3) (TVw.at (b9.prview (k := 0) rfl (a5).rs) g9).inn.bel) ?_)
     obtain ⟨h0, x8⟩ := chk_some x6
     refine DR.p rfl rfl (s_indexV (q := off x7 + 1) underlying27 sizeOf2 rfl ((TVw.at (b9.prview (k := 0) rfl (a5).rs) g9).p (ints_get (lt_len rfl (inR_lt h0)))) rfl h0 (o1 _ _)) (DR.r rfl rfl (r_load rfl isAgg2) (one_read ((TVw.at (b9.prview (k := 0) rfl (a5).rs) g9).get _ _ (ints_get (lt_len rfl (inR_lt h0)))) (.of_flat0 rfl)) ?_)
     obtain ⟨x9, y0⟩ := chk_some x8
     refine DR.p rfl rfl (p_addE rfl rfl x9) (DR.p rfl rfl (p_move rfl) ?_)
     obtain ⟨y1, y2⟩ := chk_some y0
     refine DR.p rfl rfl (p_remE rfl rfl y1) ?_
     obtain ⟨m4, y3⟩ := chk_some y2
     refine DR.p rfl rfl (s_indexV (q := ((rd (rw_ a1 a4.toNat) 0 + (rd (rw_ a1 a4.toNat) 1)).tmod a0).toNat) underlying76 sizeOf4 rfl rfl rfl m4 (z1 _)) ?_
     obtain ⟨y4, m5, y5⟩ := b9.set (k := 3) (i := b0) rfl (AObj.row false (bls (b5.set (((rd (rw_ a1 a4.toNat) 0 + (rd (rw_ a1 a4.toNat) 1)).tmod a0).toNat) true)))
     have y6 : St M0 H y4 [F, [(a8, AObj.row false (bls ((b2.set ((rd (rw_ a1 a4.toNat) 0).toNat) true).set ((rd (rw_ a1 a4.toNat) 1).toNat) true)))], [(a9, AObj.row false (bls ((b3.set c6.toNat true).set c9.toNat true)))], [(b0, AObj.row false (bls (b5.set (((rd (rw_ a1 a4.toNat) 0 + (rd (rw_ a1 a4.toNat) 1)).tmod a0).toNat) true)))]] := y5
     refine DR.s rfl (s_store sizeOf4 rfl rfl rfl (b9.get (k := 3) rfl) (lt_len ((bls_length _).trans f4) (inR_lt m4)) ((congrArg (fun l => List.set _ _ (AObj.row false l)) (bls_set _ _ _)).trans m5)) (set_le m5) (DR.nil 18 [] hst (by kernel_rfl) trivial (AX.region (AO.m rfl rfl ?_)))
     obtain ⟨y7, y8⟩ := chk_some y3
     refine AO.p rfl (p_addE rfl rfl y7) (AO.a rfl rfl (AO.nil ?_))
     obtain rfl := some_inj y8
     have y9 := y6.front 3 rfl
     have z0 := y9.front 3 rfl
     have z2 := z0.front 3 rfl
     have z3 := z2.front 3 rfl
     exact ⟨(((b2.set ((rd (rw_ a1 a4.toNat) 0).toNat) true).set ((rd (rw_ a1 a4.toNat) 1).toNat) true), ((b3.set c6.toNat true).set c9.toNat true), (b5.set (((rd (rw_ a1 a4.toNat) 0 + (rd (rw_ a1 a4.toNat) 1)).tmod a0).toNat) true), a4 + 1), j3, ((b2.set ((rd (rw_ a1 a4.toNat) 0).toNat) true).set ((rd (rw_ a1 a4.toNat) 1).toNat) true), ((b3.set c6.toNat true).set c9.toNat true), (b5.set (((rd (rw_ a1 a4.toNat) 0 + (rd (rw_ a1 a4.toNat) 1)).tmod a0).toNat) true), (a4 + 1), rfl, z3, j2, a5, (len_set (len_set e4)), (len_set (len_set e5)), (len_set f4), Sub.k8 rfl rfl rfl rfl rfl rfl rfl rfl (Sub.nil _)⟩
    ·have z4 := bif_f f6 f5
     refine AX.exit ?_
     obtain rfl := some_inj z4
     have z5 := c8.front 3 rfl
     have z6 := z5.front 3 rfl
     have z7 := z6.front 3 rfl
     have z8 := z7.front 3 rfl
     exact ⟨b2, b3, b5, j3, z8, j2, a5, e4, e5, f4, Sub.k4 rfl rfl rfl rfl (Sub.k2 rfl rfl (Sub.k1 rfl (Sub.nil _)))⟩
  ·rintro t' T2 ⟨c3, c4, b6, rfl, z9, A0, A1, m6, A2, A3, A4⟩
   refine ⟨_, A4, ?_⟩
   refine AX.sr ?_
   obtain ⟨T3, d3, A5, A6, A7⟩ := z9.new (AObj.row false (tcells3 []))
   refine AO.c rfl (s_build0 (i := d3) underlying66 sizeOf24 A5 A6) (AO.a rfl rfl (AO.a rfl rfl (AO.nil ?_)))
   obtain ⟨A8, A9, B0⟩ := bnd_some s8
   refine AX.cut (fun t' H' => ∃ (a7 : Int), a7 = A8 ∧ St M0 H H' [F, [(a8, AObj.row false (bls c3))], [(a9, AObj.row false (bls c4))], [(b0, AObj.row false (bls b6))], [(d3, AObj.row false (tcells3 []))]] ∧ Pin F F ∧ PT F p_a1 c_a1 T_a1 ∧ PA F [] ∧ Am.Sub [(0, .int .i64 a0), (1, .slice p_a1 a1.length c_a1), (2, .bool a2), (3, .int .i64 a3), (9, .slice (some (Addr.mk a8 0 none)) a0.toNat a0.toNat), (10, .slice (some (Addr.mk a9 0 none)) a0.toNat a0.toNat), (11, .slice (some (Addr.mk b0 0 none)) a0.toNat a0.toNat), (13, .int .i64 a7), (14, .slice (some (Addr.mk d3 0 none)) 0 0)] t') ?_ ?_
   ·refine AX.block (AX.loopF (fun s' t' H' => ∃ (d0 : Int), d0 = s' ∧ St M0 H H' [F, [(a8, AObj.row false (bls c3))], [(a9, AObj.row false (bls c4))], [(b0, AObj.row false (bls b6))], [(d3, AObj.row false (tcells3 []))]] ∧ Pin F F ∧ PT F p_a1 c_a1 T_a1 ∧ PA F [] ∧ Am.Sub [(0, .int .i64 a0), (1, .slice p_a1 a1.length c_a1), (2, .bool a2), (3, .int .i64 a3), (9, .slice (some (Addr.mk a8 0 none)) a0.toNat a0.toNat), (10, .slice (some (Addr.mk a9 0 none)) a0.toNat a0.toNat), (11, .slice (some (Addr.mk b0 0 none)) a0.toNat a0.toNat), (13, .int .i64 d0), (14, .slice (some (Addr.mk d3 0 none)) 0 0)] t') A9 ?_ ?_)
    ·skip
     have B1 := A7.front 0 rfl
     have B2 := B1.front 4 rfl
     have B3 := B2.front 4 rfl
     have B4 := B3.front 4 rfl
     have B5 := B4.front 4 rfl
     exact ⟨1, rfl, B5, A0, A1, PA.nil, Sub.k8 rfl rfl rfl rfl rfl rfl rfl rfl (Sub.k1 rfl (Sub.nil _))⟩
    ·rintro T4 _ t' T5 ⟨d0, rfl, h1, m7, m8, m9, B6⟩ T6 n0 n1
     refine AX.sub B6 ?_
     unfold D_spec_l03Search_s1 at n0
     refine AX.seq (AX.sr (AO.m rfl rfl (AO.m rfl rfl ?_)))
     obtain ⟨n2, n3⟩ := chk_some n0
     refine AO.p rfl (s_indexV (q := d0.toNat) underlying76 sizeOf4 rfl rfl rfl n2 (z1 _)) (AO.c rfl (s_load isAgg4 rfl (row_cell (h1.get (k := 1) rfl) (bls_get (lt_len m6 (inR_lt n2))))) (AO.nil (AX.cond rfl (fun h2 => ?_) (fun h2 => ?_))))
     ·have B7 := bif_t h2 n3
      refine AX.skip (AX.block (AX.region (AO.m rfl rfl ?_)))
      obtain ⟨B8, B9⟩ := chk_some B7
      refine AO.p rfl (p_addE rfl rfl B8) (AO.a rfl rfl (AO.nil ?_))
      obtain rfl := some_inj B9
      have C0 := h1.front 4 rfl
      have C1 := C0.front 4 rfl
      have C2 := C1.front 4 rfl
      have C3 := C2.front 4 rfl
      have C4 := C3.front 4 rfl
      exact ⟨d0 + 1, n1, (d0 + 1), rfl, C4, m7, m8, m9, Sub.k8 rfl rfl rfl rfl rfl rfl rfl rfl (Sub.k1 rfl (Sub.nil _))⟩
     ·have C5 := bif_f h2 n3
      refine AX.exit ?_
      obtain rfl := some_inj C5
      have C6 := h1.front 4 rfl
      have C7 := C6.front 4 rfl
      have C8 := C7.front 4 rfl
      have C9 := C8.front 4 rfl
      have D0 := C9.front 4 rfl
      exact ⟨d0, n1, D0, m7, m8, m9, Sub.k8 rfl rfl rfl rfl rfl rfl rfl rfl (Sub.k1 rfl (Sub.nil _))⟩
   ·rintro t' T7 ⟨a7, rfl, D1, D2, D3, D4, D5⟩
    refine AX.sub D5 (AX.seq (AX.sr (AO.m rfl rfl ?_)))
    obtain ⟨D6, D7⟩ := chk_some B0
    refine AO.p rfl (p_addE rfl rfl D6) (AO.a rfl rfl (AO.nil ?_))
    obtain ⟨D8, D9, E0⟩ := bnd_some D7
    refine AX.cutS (fun t' H' => ∃ (d8 : List (List (List Int))) (d9 : Sg) (d4 : Option Addr) (e6 : Nat) (d5 : Tb3), d8 = D8 ∧ St M0 H H' [d9, oseg d4 (tcells3 d5)] ∧ Pin d9 F ∧ trows3 d5 = d8 ∧ PA d9 d5 ∧ Sb d4 (d8.length) e6 1 ∧ Am.Sub [(14, .slice d4 d8.length e6)] t') ?_ ?_
    ·refine AX.block (AX.loopF (fun s' t' H' => ∃ (b1 : List (List (List Int))) (a6 : Int) (c0 : Sg) (c1 : Option Addr) (d1 : Nat) (b4 : Tb3), (b1, a6) = s' ∧ St M0 H H' [c0, [(a8, AObj.row false (bls c3))], [(a9, AObj.row false (bls c4))], [(b0, AObj.row false (bls b6))], oseg c1 (tcells3 b4)] ∧ Pin c0 F ∧ PT c0 p_a1 c_a1 T_a1 ∧ trows3 b4 = b1 ∧ PA c0 b4 ∧ Sb c1 (b1.length) d1 1 ∧ Am.Sub [(0, .int .i64 a0), (1, .slice p_a1 a1.length c_a1), (2, .bool a2), (3, .int .i64 a3), (9, .slice (some (Addr.mk a8 0 none)) a0.toNat a0.toNat), (10, .slice (some (Addr.mk a9 0 none)) a0.toNat a0.toNat), (11, .slice (some (Addr.mk b0 0 none)) a0.toNat a0.toNat), (13, .int .i64 a7), (14, .slice c1 b1.length d1), (15, .int .i64 a6)] t') D9 ?_ ?_)
     ·skip
      have E1 := D1.front 4 rfl
      have E2 := E1.front 4 rfl
      have E3 := E2.front 4 rfl
      have E4 := E3.front 4 rfl
      have E5 := E4.front 4 rfl
      exact ⟨[], (a7 + 1), F, (some (Addr.mk d3 0 none)), 0, [], rfl, E5, D2, D3, rfl, D4, (Sb.lit (n := 0) (by decide)), Sub.k8 rfl rfl rfl rfl rfl rfl rfl rfl (Sub.k2 rfl rfl (Sub.nil _))⟩
     ·rintro T8 _ t' E6 ⟨b1, a6, c0, c1, d1, b4, rfl, c7, d6, e0, e7, d7, e8, E7⟩ T9 h3 h4
      refine AX.sub E7 ?_
      unfold D_spec_l03Search_s2 at h3
      refine AX.seq (AX.cut (fun t' H' => E6 = H' ∧ Am.Sub [(0, .int .i64 a0), (1, .slice p_a1 a1.length c_a1), (2, .bool a2), (3, .int .i64 a3), (9, .slice (some (Addr.mk a8 0 none)) a0.toNat a0.toNat), (10, .slice (some (Addr.mk a9 0 none)) a0.toNat a0.toNat), (11, .slice (some (Addr.mk b0 0 none)) a0.toNat a0.toNat), (13, .int .i64 a7), (14, .slice c1 b1.length d1), (15, .int .i64 a6), (121, .bool ((decide (a6 < a0)) && (decide (((b1.length : Nat) : Int) < a3))))] t') ?_ ?_)
      ·skip
       refine AX.region (AO.m rfl rfl (AO.m rfl rfl (AO.p rfl (p_lss rfl rfl) (AO.m rfl rfl (AO.cases (d := 116) rfl (fun h5 => ?_) (fun h5 => ?_))))))
       ·skip
        refine AO.gp rfl rfl rfl (p_move rfl) (AO.gp rfl rfl rfl (p_len_slice rfl underlying66) (AO.gp rfl rfl rfl (p_move rfl) (AO.gp rfl rfl rfl (p_lss rfl rfl) (AO.p rfl (p_pickT rfl rfl) (AO.nil ?_)))))
        exact ⟨rfl, Sub.k8 rfl rfl rfl rfl rfl rfl rfl rfl (Sub.k2 rfl rfl (Sub.k1 (congrArg some (bool_eq (by simp only [h5, Bool.true_and, Bool.false_and, Bool.and_true, Bool.and_false, Bool.true_or, Bool.false_or, Bool.or_true, Bool.or_false, Bool.not_true, Bool.not_false, cond_true, cond_false]))) (Sub.nil _)))⟩
       ·skip
        refine AO.gn rfl rfl rfl (AO.gn rfl rfl rfl (AO.gn rfl rfl rfl (AO.gn rfl rfl rfl (AO.p rfl (p_pickF rfl rfl) (AO.nil ?_)))))
        exact ⟨rfl, Sub.k8 rfl rfl rfl rfl rfl rfl rfl rfl (Sub.k2 rfl rfl (Sub.k1 (congrArg some (bool_eq (by simp only [h5, Bool.true_and, Bool.false_and, Bool.and_true, Bool.and_false, Bool.true_or, Bool.false_or, Bool.or_true, Bool.or_false, Bool.not_true, Bool.not_false, cond_true, cond_false]))) (Sub.nil _)))⟩
      ·rintro t' _ ⟨rfl, E8⟩
       refine AX.sub E8 (AX.cond rfl (fun h6 => ?_) (fun h6 => ?_))
       ·have E9 := bif_t h6 h3
        refine AX.skip (AX.seq (AX.block (AX.sr (AO.m rfl rfl (AO.m rfl rfl ?_)))))
        obtain ⟨F0, F1⟩ := chk_some E9
        refine AO.p rfl (p_addE rfl rfl F0) (AO.m rfl rfl ?_)
        obtain ⟨F2, F3⟩ := chk_some F1
        refine AO.p rfl (p_remE rfl rfl F2) (AO.a rfl rfl (AO.nil (AX.seq ?_)))
        obtain ⟨F4, F5, n4⟩ := bnd_some F3
        refine AX.cut (fun t' H' => ∃ (h7 : Bool), h7 = F4 ∧ St M0 H H' [c0, [(a8, AObj.row false (bls c3))], [(a9, AObj.row false (bls c4))], [(b0, AObj.row false (bls b6))], oseg c1 (tcells3 b4)] ∧ Pin c0 F ∧ PT c0 p_a1 c_a1 T_a1 ∧ PA c0 b4 ∧ Am.Sub [(0, .int .i64 a0), (1, .slice p_a1 a1.length c_a1), (2, .bool a2), (3, .int .i64 a3), (9, .slice (some (Addr.mk a8 0 none)) a0.toNat a0.toNat), (10, .slice (some (Addr.mk a9 0 none)) a0.toNat a0.toNat), (11, .slice (some (Addr.mk b0 0 none)) a0.toNat a0.toNat), (13, .int .i64 a7), (14, .slice c1 b1.length d1), (15, .int .i64 a6), (153, .bool h7)] t') ?_ ?_
        ·skip
         refine AX.region (AO.m rfl rfl (AO.m rfl rfl ?_))
         obtain ⟨n5, n6⟩ := chk_some F5
         refine AO.p rfl (s_indexV (q := a6.toNat) underlying76 sizeOf4 rfl rfl rfl n5 (z1 _)) (AO.c rfl (s_load isAgg4 rfl (row_cell (c7.get (k := 1) rfl) (bls_get (lt_len m6 (inR_lt n5))))) (AO.m rfl rfl (AO.cases (d := 133) rfl (fun h8 => ?_) (fun h8 => ?_))))
         ·have F6 := bif_t h8 n6
          refine AO.gn rfl rfl rfl (AO.gn rfl rfl rfl (AO.gn rfl rfl rfl (AO.gn rfl rfl rfl (AO.gn rfl rfl rfl (AO.gn rfl rfl rfl (AO.p rfl (p_pickT rfl rfl) (AO.m rfl rfl (AO.gn rfl rfl rfl (AO.gn rfl rfl rfl (AO.gu rfl rfl rfl (AO.gu rfl rfl rfl (AO.gu rfl rfl rfl (AO.gu rfl rfl rfl ?_)))))))))))))
          refine AO.gu rfl rfl rfl (AO.gu rfl rfl rfl (AO.gu rfl rfl rfl (AO.gu rfl rfl rfl (AO.gn rfl rfl rfl (AO.p rfl (p_pickT rfl rfl) (AO.nil ?_))))))
          have F7 := c7.front 4 rfl
          have F8 := F7.front 4 rfl
          have F9 := F8.front 4 rfl
          have G0 := F9.front 4 rfl
          have G1 := G0.front 4 rfl
          exact ⟨true, (some_inj F6), G1, d6, e0, d7, Sub.k8 rfl rfl rfl rfl rfl rfl rfl rfl (Sub.k2 rfl rfl (Sub.k1 rfl (Sub.nil _)))⟩
         ·have G2 := bif_f h8 n6
          refine AO.gp rfl rfl rfl (p_move rfl) (AO.gp rfl rfl rfl (p_move rfl) (AO.gp rfl rfl rfl (p_move rfl) ?_))
          obtain ⟨G3, G4⟩ := chk_some G2
          refine AO.gp rfl rfl rfl (p_subE rfl rfl G3) ?_
          obtain ⟨n7, n8⟩ := chk_some G4
          refine AO.gp rfl rfl rfl (s_indexV (q := (a6 - a7).toNat) underlying76 sizeOf4 rfl rfl rfl n7 (z1 _)) (AO.gc rfl rfl rfl (s_load isAgg4 rfl (row_cell (c7.get (k := 2) rfl) (bls_get (lt_len A2 (inR_lt n7))))) (AO.p rfl (p_pickF rfl rfl) (AO.m rfl rfl (AO.cases (d := 141) rfl (fun h9 => ?_) (fun h9 => ?_)))))
          ·have G5 := bif_t h9 n8
           refine AO.gn rfl rfl rfl (AO.gn rfl rfl rfl (AO.gu rfl rfl rfl (AO.gu rfl rfl rfl (AO.gu rfl rfl rfl (AO.gu rfl rfl rfl (AO.gu rfl rfl rfl (AO.gu rfl rfl rfl (AO.gu rfl rfl rfl (AO.gu rfl rfl rfl (AO.gn rfl rfl rfl (AO.p rfl (p_pickT rfl rfl) (AO.nil ?_))))))))))))
           have G6 := c7.front 4 rfl
           have G7 := G6.front 4 rfl
           have G8 := G7.front 4 rfl
           have G9 := G8.front 4 rfl
           have H0 := G9.front 4 rfl
           exact ⟨true, (some_inj G5), H0, d6, e0, d7, Sub.k8 rfl rfl rfl rfl rfl rfl rfl rfl (Sub.k2 rfl rfl (Sub.k1 rfl (Sub.nil _)))⟩
          ·have n9 := bif_f h9 n8
           refine AO.gp rfl rfl rfl (p_move rfl) (AO.gp rfl rfl rfl (p_move rfl) (AO.cases (d := 143) rfl (fun i0 => ?_) (fun i0 => ?_)))
           ·have o0 := bif_t i0 n9
            refine AO.gp rfl rfl rfl (p_move rfl) (AO.gp rfl rfl rfl (p_eql rfl rfl) (AO.gp rfl rfl rfl (p_move rfl) (AO.cases (d := 146) rfl (fun i1 => ?_) (fun i1 => ?_))))
            ·have H1 := bif_t i1 o0
             refine AO.gn rfl rfl rfl (AO.gn rfl rfl rfl (AO.gn rfl rfl rfl (AO.gn rfl rfl rfl (AO.gp rfl rfl rfl (p_pickT rfl rfl) (AO.gp rfl rfl rfl (p_pickT rfl rfl) (AO.p rfl (p_pickF rfl rfl) (AO.nil ?_)))))))
             have H2 := c7.front 4 rfl
             have H3 := H2.front 4 rfl
             have H4 := H3.front 4 rfl
             have H5 := H4.front 4 rfl
             have H6 := H5.front 4 rfl
             exact ⟨true, (some_inj H1), H6, d6, e0, d7, Sub.k8 rfl rfl rfl rfl rfl rfl rfl rfl (Sub.k2 rfl rfl (Sub.k1 rfl (Sub.nil _)))⟩
            ·have H7 := bif_f i1 o0
             refine AO.gp rfl rfl rfl (p_move rfl) (AO.gp rfl rfl rfl (p_move rfl) ?_)
             obtain ⟨o2, H8⟩ := chk_some H7
             refine AO.gp rfl rfl rfl (s_indexV (q := ((a7 + a6).tmod a0).toNat) underlying76 sizeOf4 rfl rfl rfl o2 (z1 _)) (AO.gc rfl rfl rfl (s_load isAgg4 rfl (row_cell (c7.get (k := 3) rfl) (bls_get (lt_len A3 (inR_lt o2))))) (AO.gp rfl rfl rfl (p_pickF rfl rfl) (AO.gp rfl rfl rfl (p_pickT rfl rfl) (AO.p rfl (p_pickF rfl rfl) (AO.nil ?_)))))
             have H9 := c7.front 4 rfl
             have I0 := H9.front 4 rfl
             have I1 := I0.front 4 rfl
             have I2 := I1.front 4 rfl
             have I3 := I2.front 4 rfl
             exact ⟨(rdb b6 (((a7 + a6).tmod a0).toNat)), (some_inj H8), I3, d6, e0, d7, Sub.k8 rfl rfl rfl rfl rfl rfl rfl rfl (Sub.k2 rfl rfl (Sub.k1 rfl (Sub.nil _)))⟩
           ·have I4 := bif_f i0 n9
            refine AO.gn rfl rfl rfl (AO.gn rfl rfl rfl (AO.gn rfl rfl rfl (AO.gu rfl rfl rfl (AO.gu rfl rfl rfl (AO.gu rfl rfl rfl (AO.gu rfl rfl rfl (AO.gn rfl rfl rfl (AO.gp rfl rfl rfl (p_pickF rfl rfl) (AO.p rfl (p_pickF rfl rfl) (AO.nil ?_))))))))))
            have I5 := c7.front 4 rfl
            have I6 := I5.front 4 rfl
            have I7 := I6.front 4 rfl
            have I8 := I7.front 4 rfl
            have I9 := I8.front 4 rfl
            exact ⟨false, (some_inj I4), I9, d6, e0, d7, Sub.k8 rfl rfl rfl rfl rfl rfl rfl rfl (Sub.k2 rfl rfl (Sub.k1 rfl (Sub.nil _)))⟩
        ·rintro t' U0 ⟨h7, rfl, o3, o4, e9, o5, J0⟩
         refine AX.sub J0 (AX.cond rfl (fun i2 => ?_) (fun i2 => ?_))
         ·have J1 := bif_t i2 n4
          refine AX.exit (AX.region (AO.m rfl rfl ?_))
          obtain ⟨J2, J3⟩ := chk_some J1
          refine AO.p rfl (p_addE rfl rfl J2) (AO.a rfl rfl (AO.nil ?_))
          obtain rfl := some_inj J3
          have J4 := o3.front 4 rfl
          have J5 := J4.front 4 rfl
          have J6 := J5.front 4 rfl
          have J7 := J6.front 4 rfl
          have J8 := J7.front 4 rfl
          exact ⟨(b1, a6 + 1), h4, b1, (a6 + 1), c0, c1, d1, b4, rfl, J8, o4, e9, e7, o5, e8, Sub.k8 rfl rfl rfl rfl rfl rfl rfl rfl (Sub.k2 rfl rfl (Sub.nil _))⟩
         ·have J9 := bif_f i2 n4
          refine AX.skip (AX.region (AO.m rfl rfl (AO.m rfl rfl ?_)))
          obtain ⟨U1, K0, K1, K2, i3⟩ := o3.new (AObj.row false (tcells []))
          refine AO.c rfl (s_build0 (i := K0) underlying24 sizeOf27 K1 K2) (AO.m rfl rfl ?_)
          obtain ⟨K3, K4⟩ := chk_some J9
          obtain ⟨K5, K6, U2, K7, K8, K9⟩ := i3.app (k := 0) rfl (Sb.lit (n := 0) (by decide)) (tcells T_a1) a1.length (tc_len1 t_a1 rfl)
          have L0 := K8.cellsEq (k := 0) (us' := tcells T_a1) (List.nil_append _) rfl
          have o6 : Sb K5 (a1.length) K6 1 := (show 0 + a1.length = a1.length from len_nilapp (b := a1) rfl) ▸ K9
          refine AO.c rfl (s_app (by_ := 24) (us := tcells []) (vs := tcells T_a1) underlying24 underlying24 typeInfo27 sizeOf27 zeroValue27 rfl rfl rfl rfl rfl rfl rfl (i3.buf (k := 0) rfl (Sb.lit (n := 0) (by decide)) (tc_len1 rfl rfl)) (i3.ptview (k := 1) rfl e9 (tlen t_a1)) (tc_len1 t_a1 rfl) tcells_one K3 K7 (show 0 + a1.length = a1.length from len_nilapp (b := a1) rfl)) (AO.m rfl rfl (AO.m rfl rfl ?_))
          obtain ⟨U3, c2, L1, L2, L3⟩ := L0.new (AObj.row false (ints [a7, a6]))
          refine AO.c rfl (s_buildInts (i := c2) (vs := [(0, .int .i64 a7), (1, .int .i64 a6)]) (xs := [a7, a6]) underlying27 sizeOf2 zeroValue2 rfl rfl (by decide) rfl rfl L1 L2) ?_
          obtain ⟨U4, o7, L4, L5, L6⟩ := L3.new (AObj.row false (tcells ([((some (Addr.mk c2 0 none)), 2, [a7, a6])])))
          have i4 := (L6.front 1 rfl).tone (some (Addr.mk c2 0 none)) 2 [a7, a6] rfl
          refine AO.c rfl (s_buildT1 (i := o7) (X := [((some (Addr.mk c2 0 none)), 2, [a7, a6])]) (n := 2) rfl underlying24 sizeOf27 zeroValue27 rfl rfl L4 L5) ?_
          obtain ⟨L7, L8⟩ := chk_some K4
          obtain ⟨e1, i5, f0, L9, M1, M2⟩ := i4.app (k := 2) rfl o6 (tcells ([((some (Addr.mk c2 0 none)), 2, [a7, a6])])) 1 (tc_len1 rfl rfl)
          have M3 := M1.cellsEq (k := 2) (us' := tcells (T_a1 ++ [((some (Addr.mk c2 0 none)), 2, [a7, a6])])) (tcells_app _ _).symm rfl
          have M4 : Sb e1 ((a1 ++ [[a7, a6]]).length) i5 1 := (show a1.length + 1 = (a1 ++ [[a7, a6]]).length from len_app (a := a1) (b := [[a7, a6]]) rfl rfl) ▸ M2
          have M5 := M3.front 3 rfl
          have M6 := M5.front 1 rfl
          have M7 : St M0 H f0 [tseg ([((some (Addr.mk c2 0 none)), 2, [a7, a6])]), c0, [(o7, AObj.row false (tcells ([((some (Addr.mk c2 0 none)), 2, [a7, a6])])))], oseg e1 (tcells (T_a1 ++ [((some (Addr.mk c2 0 none)), 2, [a7, a6])])), [(a8, AObj.row false (bls c3))], [(a9, AObj.row false (bls c4))], [(b0, AObj.row false (bls b6))], oseg c1 (tcells3 b4)] := M6
          obtain ⟨M8, i6, M9, N0⟩ := M7.poolRows (T := T_a1) (e9).rs (TSb.one (sb_len rfl (Sb.lit (n := 2) (by decide))))
          have N1 := N0.drop 1 rfl
          refine AO.c rfl (s_app (by_ := 24) (us := tcells T_a1) (vs := tcells ([((some (Addr.mk c2 0 none)), 2, [a7, a6])])) underlying24 underlying24 typeInfo27 sizeOf27 zeroValue27 rfl rfl rfl rfl rfl rfl rfl (i4.buf (k := 2) rfl o6 (tc_len1 t_a1 rfl)) (i4.oview (k := 1) rfl (Sb.lit (n := 1) (by decide)) (tc_len1 rfl rfl)) (tc_len1 rfl rfl) tcells_one L7 L9 (show a1.length + 1 = (a1 ++ [[a7, a6]]).length from len_app (a := a1) (b := [[a7, a6]]) rfl rfl)) (AO.m rfl rfl (AO.m rfl rfl (AO.m rfl rfl (AO.p rfl (p_len_slice rfl underlying66) ?_))))
          obtain ⟨N2, N3⟩ := chk_some L8
          refine AO.p rfl (p_subE rfl rfl N2) ?_
          have N4 := N1.front 0 rfl
          have N5 := N4.front 1 rfl
          have N6 : St M0 H f0 [oseg e1 (tcells (T_a1 ++ [((some (Addr.mk c2 0 none)), 2, [a7, a6])])), M8, [(a8, AObj.row false (bls c3))], [(a9, AObj.row false (bls c4))], [(b0, AObj.row false (bls b6))], oseg c1 (tcells3 b4)] := N5
          obtain ⟨e2, i7, N7, N8⟩ := N6.poolHdr M9 M4 (tlen (trows_apps t_a1 rfl))
          have N9 := N8.front 0 rfl
          have i8 : St M0 H f0 [e2, [(a8, AObj.row false (bls c3))], [(a9, AObj.row false (bls c4))], [(b0, AObj.row false (bls b6))], oseg c1 (tcells3 b4)] := N9
          obtain ⟨c5, O0, O1⟩ := bnd_some N3
          obtain ⟨_, U5, O2, U6, U7, f1, O3, rfl, O4, f2, o8, i9⟩ := ih f0 e2 a0 e1 i5 (T_a1 ++ [((some (Addr.mk c2 0 none)), 2, [a7, a6])]) (a1 ++ [[a7, a6]]) (trows_apps t_a1 rfl) N7 a2 (a3 - ((b1.length : Nat) : Int)) (St.fnodup (A := [e2]) i8) (St.fmem (A := [e2]) i8) c5 O0
          have j0 := St.callM (A := [e2]) i8 O4 (fun j h => h)
          refine AO.c rfl (o_call (vs := [.int .i64 a0, .slice e1 ((a1 ++ [[a7, a6]]).length) i5, .bool a2, .int .i64 (a3 - ((b1.length : Nat) : Int))]) rfl Tryz.call51 O2) ?_
          obtain ⟨O5, O6⟩ := chk_some O1
          obtain ⟨o9, p0, U8, O7, O8, O9⟩ := j0.app (k := 4) rfl e8 (tcells3 f1) c5.length (tc3_len1 f2 rfl)
          have P0 := O8.cellsEq (k := 4) (us' := tcells3 (b4 ++ f1)) (tcells3_app _ _).symm rfl
          have P1 : Sb o9 ((b1 ++ c5).length) p0 1 := (show b1.length + c5.length = (b1 ++ c5).length from len_app (a := b1) (b := c5) rfl rfl) ▸ O9
          refine AO.c rfl (s_app (by_ := 24) (us := tcells3 b4) (vs := tcells3 f1) underlying66 underlying66 typeInfo24 sizeOf24 zeroValue24 rfl rfl rfl rfl rfl rfl rfl (j0.buf (k := 4) rfl e8 (tc3_len1 e7 rfl)) (j0.pt3view (k := 0) rfl o8 (tlen3 f2)) (tc3_len1 f2 rfl) tcells3_one O5 O7 (show b1.length + c5.length = (b1 ++ c5).length from len_app (a := b1) (b := c5) rfl rfl)) (AO.a rfl rfl (AO.nil (AX.region (AO.m rfl rfl ?_))))
          obtain ⟨P2, P3⟩ := chk_some O6
          refine AO.p rfl (p_addE rfl rfl P2) (AO.a rfl rfl (AO.nil ?_))
          obtain rfl := some_inj P3
          have P4 := P0.front 4 rfl
          have P5 := P4.front 4 rfl
          have P6 := P5.front 4 rfl
          have P7 := P6.front 4 rfl
          have P8 := P7.front 4 rfl
          exact ⟨((b1 ++ c5), a6 + 1), h4, (b1 ++ c5), (a6 + 1), O3, o9, p0, (b4 ++ f1), rfl, P8, (((o4.mono i6).mono i7).mono i9), (((e9.mono i6).mono i7).mono i9), (trows3_apps e7 f2), (PA.app (((o5.mono i6).mono i7).mono i9) (o8).rs), P1, Sub.k8 rfl rfl rfl rfl rfl rfl rfl rfl (Sub.k2 rfl rfl (Sub.nil _))⟩
       ·have P9 := bif_f h6 h3
        refine AX.exit ?_
        obtain rfl := some_inj P9
        have Q0 := c7.front 4 rfl
        have Q1 := Q0.front 1 rfl
        have Q2 := Q1.keep 2
        exact ⟨b1, c0, c1, d1, b4, h4, Q2, d6, e7, d7, e8, Sub.k1 rfl (Sub.nil _)⟩
    ·rintro t' Q3 ⟨d8, d9, d4, e6, d5, rfl, Q4, Q5, p1, Q6, Q7, Q8⟩
     refine ⟨_, Q8, ?_⟩
     refine AX.sr (AO.m rfl rfl (AO.a rfl rfl (AO.nil (AX.ret ?_))))
     have Q9 := Q4.front 0 rfl
     have R0 := Q9.front 1 rfl
     have R1 : St M0 H Q3 [oseg d4 (tcells3 d5), d9] := R0
     obtain ⟨R2, R3, R4, R5⟩ := R1.poolHdr3 Q6 Q7 (tlen3 p1)
     obtain rfl := some_inj E0
     have R6 := R5.front 0 rfl
     exact ⟨.inr rfl, _, res1 rfl (rv_tmp rfl), d4, e6, d5, R2, rfl, R6, p1, R4, (Q5.mono R3)⟩
set_option maxHeartbeats 4000000 in
theorem W_spec_CountStarters (fu : Nat) (H : AHeap) (a0 : Int) (r0 : Int) (r1 : Int) (r2 : Int) (r3 : Int) (hd : D_spec_CountStarters fu a0 = some (r0, r1, r2, r3)) : ACall Tryz.prog 25 [.int .i64 a0] H (.tuple #[.int .i64 r0, .int .i64 r1, .int .i64 r2, .int .i64 r3]) H := by
 refine ACall.bodyP (N := 42) [(0, .int .i64 a0)] Tryz.func25 rfl rfl rfl rfl ?_
 unfold D_spec_CountStarters at hd
 have S0 : St [] H H [] := St.nil H
 have S0 := S0.poolNew
 refine AX.sr (AO.a rfl rfl (AO.a rfl rfl (AO.a rfl rfl (AO.a rfl rfl (AO.nil (AX.seq (AX.sr (AO.m rfl rfl ?_))))))))
 obtain ⟨e1, e2, c6⟩ := bnd_some hd
 refine AO.c rfl (o_call (vs := [.int .i64 a0]) rfl Tryz.call50 (W_spec_l03Modulus fu H a0 e1 e2)) (AO.p rfl (p_not rfl) (AO.nil (AX.cond rfl (fun b5 => ?_) (fun b5 => ?_))))
 ·have e3 := bif_t b5 c6
  refine AX.sr (AO.a rfl rfl (AO.a rfl rfl (AO.a rfl rfl (AO.a rfl rfl (AO.nil (AX.ret ?_))))))
  obtain ⟨rfl, e4⟩ := Prod.mk.inj (some_inj e3)
  obtain ⟨rfl, e5⟩ := Prod.mk.inj e4
  obtain ⟨rfl, rfl⟩ := Prod.mk.inj e5
  exact ⟨.inr rfl, _, res4 rfl (rv_tmp rfl) (rv_tmp rfl) (rv_tmp rfl) (rv_tmp rfl), rfl, (flat_t4 (flatB_ok rfl) (flatB_ok rfl) (flatB_ok rfl) (flatB_ok rfl)), S0.hold⟩
 ·have e6 := bif_f b5 c6
  refine AX.skip (AX.sr (AO.m rfl rfl ?_))
  obtain ⟨e7, b6, e8, e9, f0⟩ := S0.new (AObj.row false (tcells []))
  have S112t := f0.nilseg 1
  refine AO.c rfl (s_build0 (i := b6) underlying24 sizeOf27 e8 e9) ?_
  have f1 := S112t.front 2 rfl
  have f2 := f1.front 2 rfl
  obtain ⟨l0, l1, f3, f4⟩ := f2.poolRows PR.nil TSb.nil
  have f5 := f4.front 0 rfl
  have f6 := f5.front 1 rfl
  obtain ⟨b4, l2, f7, f8⟩ := f6.poolHdr f3 (Sb.lit (n := 0) (by decide)) (tlen rfl)
  have b7 := f8.front 0 rfl
  obtain ⟨a3, f9, g0⟩ := bnd_some e6
  obtain ⟨_, l3, g1, a4, a8, b8, a9, rfl, g2, b0, g3, l4⟩ := W_spec_l03Search fu e7 b4 a0 (some (Addr.mk b6 0 none)) 0 [] [] rfl f7 false 1073741824 (St.fnodup (A := [b4]) b7) (St.fmem (A := [b4]) b7) a3 f9
  have g4 := St.callM (A := [b4]) b7 g2 (fun j h => h)
  refine AO.c rfl (o_call (vs := [.int .i64 a0, .slice (some (Addr.mk b6 0 none)) 0 0, .bool false, .int .i64 1073741824]) rfl Tryz.call51 g1) (AO.a rfl rfl (AO.a rfl rfl (AO.a rfl rfl (AO.nil (AX.seq (AX.sr (AO.a rfl rfl (AO.nil ?_))))))))
  obtain ⟨g5, g6, g7⟩ := bnd_some g0
  refine AX.cutS (fun t' H' => ∃ (b9 : Int) (c0 : Int), (b9, c0) = g5 ∧ St [] H H' [a9] ∧ PT3 a9 a4 a8 b8 ∧ Am.Sub [(6, .slice a4 a3.length a8), (7, .int .i64 b9), (8, .int .i64 c0)] t') ?_ ?_
  ·refine AX.block (AX.loopF (fun s' t' H' => ∃ (b1 : Int) (a2 : Int) (a1 : Int), (b1, a2, a1) = s' ∧ St [] H H' [a9] ∧ PT3 a9 a4 a8 b8 ∧ Am.Sub [(0, .int .i64 a0), (6, .slice a4 a3.length a8), (7, .int .i64 b1), (8, .int .i64 a2), (9, .int .i64 a1)] t') g6 ?_ ?_)
   ·skip
    have g8 := g4.front 0 rfl
    exact ⟨0, 0, 0, rfl, g8, g3, Sub.k4 rfl rfl rfl rfl (Sub.k1 rfl (Sub.nil _))⟩
   ·rintro l5 _ t' g9 ⟨b1, a2, a1, rfl, a5, a6, h0⟩ l6 c1 c2
    refine AX.sub h0 ?_
    unfold D_spec_CountStarters_s0 at c1
    refine AX.seq (AX.sr (AO.m rfl rfl (AO.m rfl rfl (AO.p rfl (p_len_slice rfl underlying66) (AO.p rfl (p_lss rfl rfl) (AO.nil (AX.cond rfl (fun c3 => ?_) (fun c3 => ?_))))))))
    ·have h1 := bif_t c3 c1
     refine AX.skip (AX.seq (AX.block (AX.seq (AX.sr (AO.m rfl rfl (AO.m rfl rfl (AO.m rfl rfl ?_)))))))
     obtain ⟨c7, h2⟩ := chk_some h1
     obtain ⟨c8, c9, h3, d0, d1, d2⟩ := tget3 b0 (lt_len rfl (inR_lt c7))
     refine AO.p rfl (s_indexV (q := off a4 + a1.toNat) underlying66 sizeOf24 rfl ((a5.pt3view (k := 0) rfl a6 (tlen3 b0)).p d1) rfl c7 (o1 _ _)) (AO.c rfl (s_load isAgg24 rfl ((a5.pt3view (k := 0) rfl a6 (tlen3 b0)).get _ _ d1)) ?_)
     obtain ⟨h4, h5, h6⟩ := bnd_some h2
     refine AO.c rfl (o_call (vs := [.int .i64 a0, .slice c8 ((rw3 a3 a1.toNat).length) c9]) rfl Tryz.call32 (W_spec_l03Strong fu g9 a0 c8 c9 h3 (rw3 a3 a1.toNat) d2 (a5.ptview (k := 0) rfl (PA.at (a6).rs d0) (tlen d2)) (a5.prview (k := 0) rfl ((PA.at (a6).rs d0)).rs) h4 h5)) (AO.nil ?_)
     obtain ⟨h7, d3, h8⟩ := bnd_some h6
     refine AX.cutS (fun t' H' => ∃ (a7 : Int), a7 = h7 ∧ St [] H H' [a9] ∧ PT3 a9 a4 a8 b8 ∧ Am.Sub [(0, .int .i64 a0), (6, .slice a4 a3.length a8), (7, .int .i64 a7), (8, .int .i64 a2), (9, .int .i64 a1)] t') ?_ ?_
     ·skip
      refine AX.cond rfl (fun c4 => ?_) (fun c4 => ?_)
      ·have h9 := bif_t c4 d3
       refine AX.region (AO.m rfl rfl ?_)
       obtain ⟨i0, i1⟩ := chk_some h9
       refine AO.p rfl (p_addE rfl rfl i0) (AO.a rfl rfl (AO.nil ?_))
       have i2 := a5.front 0 rfl
       exact ⟨(b1 + 1), (some_inj i1), i2, a6, Sub.k4 rfl rfl rfl rfl (Sub.k1 rfl (Sub.nil _))⟩
      ·have i3 := bif_f c4 d3
       refine AX.skip ?_
       have i4 := a5.front 0 rfl
       exact ⟨b1, (some_inj i3), i4, a6, Sub.k4 rfl rfl rfl rfl (Sub.k1 rfl (Sub.nil _))⟩
     ·rintro t' i5 ⟨a7, rfl, b2, b3, i6⟩
      refine ⟨_, i6, ?_⟩
      refine AX.sr (AO.m rfl rfl (AO.m rfl rfl (AO.m rfl rfl ?_)))
      obtain ⟨d4, i7⟩ := chk_some h8
      obtain ⟨d5, d6, i8, d7, d8, d9⟩ := tget3 b0 (lt_len rfl (inR_lt d4))
      refine AO.p rfl (s_indexV (q := off a4 + a1.toNat) underlying66 sizeOf24 rfl ((b2.pt3view (k := 0) rfl b3 (tlen3 b0)).p d8) rfl d4 (o1 _ _)) (AO.c rfl (s_load isAgg24 rfl ((b2.pt3view (k := 0) rfl b3 (tlen3 b0)).get _ _ d8)) ?_)
      obtain ⟨i9, j0, e0⟩ := bnd_some i7
      refine AO.c rfl (o_call (vs := [.int .i64 a0, .slice d5 ((rw3 a3 a1.toNat).length) d6]) rfl Tryz.call67 (W_spec_l03Skew fu i5 a0 d5 d6 i8 (rw3 a3 a1.toNat) d9 (b2.ptview (k := 0) rfl (PA.at (b3).rs d7) (tlen d9)) (b2.prview (k := 0) rfl ((PA.at (b3).rs d7)).rs) i9 j0)) (AO.nil (AX.cond rfl (fun c5 => ?_) (fun c5 => ?_)))
      ·have j1 := bif_t c5 e0
       refine AX.region (AO.m rfl rfl ?_)
       obtain ⟨j2, j3⟩ := chk_some j1
       refine AO.p rfl (p_addE rfl rfl j2) (AO.a rfl rfl (AO.nil (AX.region (AO.m rfl rfl ?_))))
       obtain ⟨j4, j5⟩ := chk_some j3
       refine AO.p rfl (p_addE rfl rfl j4) (AO.a rfl rfl (AO.nil ?_))
       obtain rfl := some_inj j5
       have j6 := b2.front 0 rfl
       exact ⟨(a7, a2 + 1, a1 + 1), c2, a7, (a2 + 1), (a1 + 1), rfl, j6, b3, Sub.k4 rfl rfl rfl rfl (Sub.k1 rfl (Sub.nil _))⟩
      ·have j7 := bif_f c5 e0
       refine AX.skip (AX.region (AO.m rfl rfl ?_))
       obtain ⟨j8, j9⟩ := chk_some j7
       refine AO.p rfl (p_addE rfl rfl j8) (AO.a rfl rfl (AO.nil ?_))
       obtain rfl := some_inj j9
       have k0 := b2.front 0 rfl
       exact ⟨(a7, a2, a1 + 1), c2, a7, a2, (a1 + 1), rfl, k0, b3, Sub.k4 rfl rfl rfl rfl (Sub.k1 rfl (Sub.nil _))⟩
    ·have k3 := bif_f c3 c1
     refine AX.exit ?_
     obtain rfl := some_inj k3
     have k5 := a5.front 0 rfl
     exact ⟨b1, a2, c2, k5, a6, Sub.k2 rfl rfl (Sub.k1 rfl (Sub.nil _))⟩
  ·rintro t' l7 ⟨b9, c0, rfl, k6, l8, k7⟩
   refine ⟨_, k7, ?_⟩
   refine AX.sr (AO.m rfl rfl (AO.p rfl (p_len_slice rfl underlying66) (AO.m rfl rfl (AO.m rfl rfl (AO.a rfl rfl (AO.a rfl rfl (AO.a rfl rfl (AO.a rfl rfl (AO.nil (AX.ret ?_))))))))))
   obtain ⟨rfl, k8⟩ := Prod.mk.inj (some_inj g7)
   obtain ⟨rfl, k9⟩ := Prod.mk.inj k8
   obtain ⟨rfl, rfl⟩ := Prod.mk.inj k9
   exact ⟨.inr rfl, _, res4 rfl (rv_tmp rfl) (rv_tmp rfl) (rv_tmp rfl) (rv_tmp rfl), rfl, (flat_t4 (flatB_ok rfl) (flatB_ok rfl) (flatB_ok rfl) (flatB_ok rfl)), k6.hold⟩
set_option maxHeartbeats 4000000 in
theorem W_spec_FirstStrong (fu : Nat) (H : AHeap) (a0 : Int) (r0 : List (List Int)) (r1 : Int) (hd : D_spec_FirstStrong fu a0 = some (r0, r1)) : ∃ v G', ACall Tryz.prog 16 [.int .i64 a0] H v G' ∧ ∃ (p_r0 : Option Addr) (c_r0 : Nat) (T_r0 : Tb), (v = .tuple #[.slice p_r0 r0.length c_r0, .int .i64 r1]) ∧ St [] H G' [oseg p_r0 (tcells T_r0), tseg T_r0] ∧ Sb p_r0 r0.length c_r0 1 ∧ trows T_r0 = r0 ∧ TSb T_r0 := by
 refine ACall.bodyX (args := [.int .i64 a0]) (N := 17) [(0, .int .i64 a0)] (fun v G' => ∃ (p_r0 : Option Addr) (c_r0 : Nat) (T_r0 : Tb), (v = .tuple #[.slice p_r0 r0.length c_r0, .int .i64 r1]) ∧ St [] H G' [oseg p_r0 (tcells T_r0), tseg T_r0] ∧ Sb p_r0 r0.length c_r0 1 ∧ trows T_r0 = r0 ∧ TSb T_r0) Tryz.func16 rfl rfl rfl rfl ?_
 unfold D_spec_FirstStrong at hd
 have S0 : St [] H H [] := St.nil H
 have S0 := S0.poolNew
 refine AX.sr (AO.a rfl rfl (AO.a rfl rfl (AO.nil (AX.seq (AX.sr (AO.m rfl rfl ?_))))))
 obtain ⟨b6, b7, b0⟩ := bnd_some hd
 refine AO.c rfl (o_call (vs := [.int .i64 a0]) rfl Tryz.call50 (W_spec_l03Modulus fu H a0 b6 b7)) (AO.p rfl (p_not rfl) (AO.nil (AX.cond rfl (fun a4 => ?_) (fun a4 => ?_))))
 ·have b8 := bif_t a4 b0
  refine AX.sr (AO.a rfl rfl (AO.a rfl rfl (AO.nil (AX.ret ?_))))
  obtain ⟨rfl, rfl⟩ := Prod.mk.inj (some_inj b8)
  have b9 : St [] H H (tseg [] :: _) := S0.nilseg 0
  have c0 : St [] H H (oseg none (tcells []) :: _) := b9.nilseg 0
  have c1 := c0.keep 2
  exact ⟨.inr rfl, _, res2 rfl (rv_tmp rfl) (rv_tmp rfl), none, 0, [], rfl, c1, Sb.nil, rfl, TSb.nil⟩
 ·have c2 := bif_f a4 b0
  refine AX.skip (AX.sr (AO.m rfl rfl ?_))
  obtain ⟨c3, a5, c4, c5, c6⟩ := S0.new (AObj.row false (tcells []))
  have S113t := c6.nilseg 1
  refine AO.c rfl (s_build0 (i := a5) underlying24 sizeOf27 c4 c5) ?_
  have c7 := S113t.front 2 rfl
  have c8 := c7.front 2 rfl
  obtain ⟨f3, f4, c9, d0⟩ := c8.poolRows PR.nil TSb.nil
  have d1 := d0.front 0 rfl
  have d2 := d1.front 1 rfl
  obtain ⟨a2, f5, d3, d4⟩ := d2.poolHdr c9 (Sb.lit (n := 0) (by decide)) (tlen rfl)
  have a6 := d4.front 0 rfl
  obtain ⟨d5, d6, b1⟩ := bnd_some c2
  obtain ⟨_, b2, d7, d8, f6, f7, f8, rfl, d9, a7, a1, f9⟩ := W_spec_l03Search fu c3 a2 a0 (some (Addr.mk a5 0 none)) 0 [] [] rfl d3 true 1 (St.fnodup (A := [a2]) a6) (St.fmem (A := [a2]) a6) d5 d6
  have a3 := St.callM (A := [a2]) a6 d9 (fun j h => h)
  refine AO.c rfl (o_call (vs := [.int .i64 a0, .slice (some (Addr.mk a5 0 none)) 0 0, .bool true, .int .i64 1]) rfl Tryz.call51 d7) (AO.a rfl rfl (AO.nil (AX.seq (AX.sr (AO.m rfl rfl (AO.p rfl (p_len_slice rfl underlying66) (AO.p rfl (p_eql rfl rfl) (AO.nil (AX.cond rfl (fun a8 => ?_) (fun a8 => ?_))))))))))
  ·have e0 := bif_t a8 b1
   refine AX.sr (AO.a rfl rfl (AO.a rfl rfl (AO.nil (AX.ret ?_))))
   obtain ⟨rfl, rfl⟩ := Prod.mk.inj (some_inj e0)
   have e1 : St [] H b2 (tseg [] :: _) := a3.nilseg 0
   have e2 : St [] H b2 (oseg none (tcells []) :: _) := e1.nilseg 0
   have e3 := e2.keep 2
   exact ⟨.inr rfl, _, res2 rfl (rv_tmp rfl) (rv_tmp rfl), none, 0, [], rfl, e3, Sb.nil, rfl, TSb.nil⟩
  ·have e4 := bif_f a8 b1
   refine AX.skip (AX.sr (AO.m rfl rfl ?_))
   obtain ⟨b3, e5⟩ := chk_some e4
   obtain ⟨e6, e7, e8, a9, b4, b5⟩ := tget3 a7 (lt_len rfl (inR_lt b3))
   refine AO.p rfl (s_indexV (q := off d8 + 0) underlying66 sizeOf24 rfl ((a3.pt3view (k := 0) rfl a1 (tlen3 a7)).p b4) rfl b3 (o1 _ _)) (AO.c rfl (s_load isAgg24 rfl ((a3.pt3view (k := 0) rfl a1 (tlen3 a7)).get _ _ b4)) (AO.a rfl rfl (AO.a rfl rfl (AO.nil (AX.ret ?_)))))
   have e9 := a3.front 0 rfl
   have f0 := e9.thaw (PA.at (a1).rs a9)
   obtain ⟨rfl, rfl⟩ := Prod.mk.inj (some_inj e5)
   have f1 := f0.front 1 rfl
   have f2 := f1.front 1 rfl
   exact ⟨.inr rfl, _, res2 rfl (rv_tmp rfl) (rv_tmp rfl), e6, e7, e8, rfl, f2, (sb_tlen b5 ((PA.at (a1).rs a9)).hsb), b5, ((PA.at (a1).rs a9)).rs.sb⟩
end Go.Proofs.YtdafmafigcljkaaGreat
