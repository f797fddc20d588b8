
/-
 The program computes that, printed by a program. No condition.
-/
import Derived.Test.YtdafmafigcljkaaGreatDMc
import Derived.Test.YtdafmafigcljkaaGreatWMa
import Derived.Test.YtdafmafigcljkaaGreatWMb
import Derived.Test.YtdafmafigcljkaaGreatProg
import Derived.KernelRfl
namespace Go.Proofs.YtdafmafigcljkaaGreat
open Go Go.RowKit Am Go.Proofs.Tryz
set_option linter.unusedVariables false
set_option linter.unusedSimpArgs false
set_option maxRecDepth 20000
set_option maxHeartbeats 4000000 in
theorem W_impl_divisor (fu : Nat) (H : AHeap) (a0 : Int) (a1 : Int) (r0 : Int) (hd : D_impl_divisor fu a0 a1 = some r0) : ACall Tryz.prog 42 [.int .i64 a0, .int .i64 a1] H (.int .i64 r0) H := by
 refine ACall.bodyP (N := 12) [(0, .int .i64 a0), (1, .int .i64 a1)] Tryz.func42 rfl rfl rfl rfl ?_
 unfold D_impl_divisor at hd
 have S0 : St [] H H [] := St.nil H
 refine AX.sr (AO.a rfl rfl (AO.nil ?_))
 obtain ⟨a9, b0, b1⟩ := bnd_some hd
 refine AX.cut (fun t' H' => ∃ (a4 : Int), a4 = a9 ∧ St [] H H' [] ∧ Am.Sub [(0, .int .i64 a4)] t') ?_ ?_
 ·refine AX.block (AX.loopF (fun s' t' H' => ∃ (a3 : Int) (a2 : Int), (a3, a2) = s' ∧ St [] H H' [] ∧ Am.Sub [(0, .int .i64 a3), (1, .int .i64 a2)] t') b0 ?_ ?_)
  ·skip
   exact ⟨a0, a1, rfl, S0, Sub.k2 rfl rfl (Sub.nil _)⟩
  ·rintro b9 _ t' c0 ⟨a3, a2, rfl, a7, b2⟩ c1 a5 a8
   refine AX.sub b2 ?_
   unfold D_impl_divisor_s0 at a5
   refine AX.seq (AX.sr (AO.m rfl rfl (AO.p rfl (p_neq rfl rfl) (AO.nil (AX.cond rfl (fun a6 => ?_) (fun a6 => ?_))))))
   ·have b3 := bif_t a6 a5
    refine AX.skip (AX.block (DR.startS [false, false, false, false, false, false] mix (by kernel_rfl) (fun hst => ?_)))
    refine DR.p rfl rfl (p_move rfl) (DR.p rfl rfl (p_move rfl) (DR.p rfl rfl (p_move rfl) ?_))
    obtain ⟨b4, b5⟩ := chk_some b3
    refine DR.p rfl rfl (p_remE rfl rfl b4) (DR.p rfl rfl (p_assign rfl) (DR.p rfl rfl (p_assign rfl) (DR.nil 6 [] hst (by kernel_rfl) trivial ?_)))
    obtain rfl := some_inj b5
    exact ⟨(a2, a3.tmod a2), a8, a2, (a3.tmod a2), rfl, a7, Sub.k2 rfl rfl (Sub.nil _)⟩
   ·have b6 := bif_f a6 a5
    refine AX.exit ?_
    obtain rfl := some_inj b6
    exact ⟨a3, a8, a7, Sub.k1 rfl (Sub.nil _)⟩
 ·rintro t' c2 ⟨a4, rfl, b7, b8⟩
  refine AX.sub b8 (AX.sr (AO.m rfl rfl (AO.a rfl rfl (AO.nil (AX.ret ?_)))))
  obtain rfl := some_inj b1
  exact ⟨.inr rfl, _, res1 rfl (rv_tmp rfl), rfl, (flatB_ok rfl), b7.hold⟩
set_option maxHeartbeats 4000000 in
theorem W_impl_MultipleOf_1 (fu : Nat) (H : AHeap) (i_b0 : Nat) (ro_b0 : Bool) (b0_0 : Int) (o_b0 : hget H i_b0 = .row ro_b0 ([.int .i64 b0_0])) (i_b1 : Nat) (ro_b1 : Bool) (b1_0 : Int) (o_b1 : hget H i_b1 = .row ro_b1 ([.int .i64 b1_0])) (r0 : Bool) (hd : D_impl_MultipleOf_1 fu b0_0 b1_0 = some r0) : ACall Tryz.prog 41 [.pointer (some ⟨i_b0, 0, none⟩), .pointer (some ⟨i_b1, 0, none⟩)] H (.bool r0) H := by
 refine ACall.bodyP (N := 13) [(0, .pointer (some ⟨i_b0, 0, none⟩)), (1, .pointer (some ⟨i_b1, 0, none⟩))] Tryz.func41 rfl rfl rfl rfl ?_
 unfold D_impl_MultipleOf_1 at hd
 have S0 : St [] H H [] := St.nil H
 refine AX.sr (AO.a rfl rfl (AO.nil ?_))
 obtain ⟨a4, a5, a6⟩ := bnd_some hd
 refine AX.cut (fun t' H' => ∃ (a0 : Bool), a0 = a4 ∧ St [] H H' [] ∧ Am.Sub [(2, .bool a0)] t') ?_ ?_
 ·skip
  refine AX.region (AO.c rfl (s_load isAgg2 rfl (row_cell (S0.old o_b0 (by simp)) rfl)) (AO.c rfl (s_load isAgg2 rfl (row_cell (S0.old o_b1 (by simp)) rfl)) ?_))
  obtain ⟨a7, a8⟩ := chk_some a5
  refine AO.p rfl (p_subE rfl rfl a7) ?_
  obtain ⟨a9, b0, a2⟩ := bnd_some a8
  refine AO.c rfl (o_call (vs := [.int .i64 b0_0, .int .i64 1, .int .i64 (b1_0 - 1)]) rfl Tryz.call39 (W_impl_between fu H b0_0 1 (b1_0 - 1) a9 b0)) (AO.m rfl rfl (AO.cases (d := 7) rfl (fun a1 => ?_) (fun a1 => ?_)))
  ·have b1 := bif_t a1 a2
   refine AO.gc rfl rfl rfl (s_load isAgg2 rfl (row_cell (S0.old o_b0 (by simp)) rfl)) (AO.gc rfl rfl rfl (s_load isAgg2 rfl (row_cell (S0.old o_b1 (by simp)) rfl)) ?_)
   obtain ⟨a3, b2, b3⟩ := bnd_some b1
   refine AO.gc rfl rfl rfl (o_call (vs := [.int .i64 b0_0, .int .i64 b1_0]) rfl Tryz.call42 (W_impl_divisor fu H b0_0 b1_0 a3 b2)) (AO.gp rfl rfl rfl (p_eql rfl rfl) (AO.p rfl (p_pickT rfl rfl) (AO.a rfl rfl (AO.nil ?_))))
   exact ⟨(decide (a3 = 1)), (some_inj b3), S0, Sub.k1 rfl (Sub.nil _)⟩
  ·have b4 := bif_f a1 a2
   refine AO.gn rfl rfl rfl (AO.gn rfl rfl rfl (AO.gn rfl rfl rfl (AO.gn rfl rfl rfl (AO.p rfl (p_pickF rfl rfl) (AO.a rfl rfl (AO.nil ?_))))))
   exact ⟨false, (some_inj b4), S0, Sub.k1 rfl (Sub.nil _)⟩
 ·rintro t' b7 ⟨a0, rfl, b5, b6⟩
  refine AX.sub b6 (AX.ret ?_)
  obtain rfl := some_inj a6
  exact ⟨.inr rfl, _, res1 rfl (rv_tmp rfl), rfl, (flatB_ok rfl), b5.hold⟩
set_option maxHeartbeats 4000000 in
theorem W_impl_MultipleOf (fu : Nat) (H : AHeap) (a0 : Int) (p_a1 : Option Addr) (c_a1 : Nat) (T_a1 : Tb) (a1 : List (List Int)) (t_a1 : trows T_a1 = a1) (v_a1 : Vw H p_a1 a1.length c_a1 (tcells T_a1)) (w_a1 : TVw H T_a1) (a2 : Int) (r0 : List (List Int)) (r1 : Int) (hd : D_impl_MultipleOf fu a0 a1 a2 = some (r0, r1)) : ∃ v G', ACall Tryz.prog 12 [.int .i64 a0, .slice p_a1 a1.length c_a1, .int .i64 a2] H v G' ∧ ∃ (p_r0 : Option Addr) (c_r0 : Nat) (T_r0 : Tb), (v = .tuple #[.slice p_r0 r0.length c_r0, .int .i64 r1]) ∧ St [] H G' [oseg p_r0 (tcells T_r0), tseg T_r0] ∧ Sb p_r0 r0.length c_r0 1 ∧ trows T_r0 = r0 ∧ TSb T_r0 := by
 refine ACall.bodyX (args := [.int .i64 a0, .slice p_a1 a1.length c_a1, .int .i64 a2]) (N := 48) [(0, .int .i64 a0), (1, .slice p_a1 a1.length c_a1), (2, .int .i64 a2)] (fun v G' => ∃ (p_r0 : Option Addr) (c_r0 : Nat) (T_r0 : Tb), (v = .tuple #[.slice p_r0 r0.length c_r0, .int .i64 r1]) ∧ St [] H G' [oseg p_r0 (tcells T_r0), tseg T_r0] ∧ Sb p_r0 r0.length c_r0 1 ∧ trows T_r0 = r0 ∧ TSb T_r0) Tryz.func12 rfl rfl rfl rfl ?_
 unfold D_impl_MultipleOf at hd
 have S0 : St [] H H [] := St.nil H
 refine AX.sr ?_
 obtain ⟨m6, a7, e1, e2, e3⟩ := S0.new (AObj.row false ([.int .i64 a0]))
 refine AO.c rfl (s_box (i := a7) (cs := [.int .i64 a0]) rfl e1 rfl e2) ?_
 obtain ⟨m7, a8, e4, e5, c9⟩ := e3.new (AObj.row false ([.int .i64 a2]))
 refine AO.c rfl (s_box (i := a8) (cs := [.int .i64 a2]) rfl e4 rfl e5) (AO.a rfl rfl (AO.a rfl rfl (AO.nil (AX.seq (AX.sr (AO.c rfl (s_load isAgg2 rfl (row_cell (c9.get (k := 1) rfl) rfl)) (AO.p rfl (p_makeFunc (fs := []) (cs := [.pointer (some ⟨a8, 0, none⟩), .pointer (some ⟨a7, 0, none⟩)]) rfl rfl) (AO.m rfl rfl ?_))))))))
 obtain ⟨b8, b9, e6, e7, a9⟩ := c9.new (AObj.row false ([.slice p_a1 a1.length c_a1]))
 refine AO.c rfl (s_buildSl (i := b9) (vs := [(0, .slice p_a1 a1.length c_a1)]) (cs := [.slice p_a1 a1.length c_a1]) underlying66 sizeOf24 zeroValue24 rfl rfl (by decide) rfl rfl e6 e7) ?_
 obtain ⟨e8, e9, d0⟩ := bnd_some hd
 refine AO.c rfl (o_call (vs := [.int .i64 a0, .func (.func 41) #[] #[.pointer (some ⟨a8, 0, none⟩), .pointer (some ⟨a7, 0, none⟩)], .slice (some (Addr.mk b9 0 none)) 1 1]) rfl Tryz.call27 (W_impl_starterCode fu b8 a0 41 #[] #[.pointer (some ⟨a8, 0, none⟩), .pointer (some ⟨a7, 0, none⟩)] (fun _ => D_impl_MultipleOf_1 fu a2 a0) Tryz.call41 (fun G' hG  b' hb' => W_impl_MultipleOf_1 fu G' a8 false a2 (hG.get (a9.get (k := 1) rfl)) a7 false a0 (hG.get (a9.get (k := 2) rfl)) b' hb') (some (Addr.mk b9 0 none)) 1 [(p_a1, c_a1, T_a1)] [a1] (trows3_1 t_a1) (vw3_1 (a9.get (k := 0) rfl) t_a1 rfl) (TVw3.cons (a9.view v_a1) t_a1 rfl (a9.tview w_a1) TVw3.nil) e8 e9)) (AO.a rfl rfl (AO.nil (AX.sr (AO.m rfl rfl (AO.p rfl (p_neq rfl rfl) (AO.nil (AX.cond rfl (fun c0 => ?_) (fun c0 => ?_))))))))
 ·have f0 := bif_t c0 d0
  refine AX.sr (AO.m rfl rfl (AO.a rfl rfl (AO.a rfl rfl (AO.nil (AX.ret ?_)))))
  obtain ⟨rfl, rfl⟩ := Prod.mk.inj (some_inj f0)
  have f1 : St [] H b8 (tseg [] :: _) := a9.nilseg 0
  have f2 : St [] H b8 (oseg none (tcells []) :: _) := f1.nilseg 0
  have f3 := f2.keep 2
  exact ⟨.inr rfl, _, res2 rfl (rv_tmp rfl) (rv_tmp rfl), none, 0, [], rfl, f3, Sb.nil, rfl, TSb.nil⟩
 ·have f4 := bif_f c0 d0
  refine AX.skip (AX.sr ?_)
  obtain ⟨m8, d1, f5, f6, f7⟩ := a9.new (AObj.row false (tcells []))
  have S125t := f7.nilseg 1
  refine AO.c rfl (s_build0 (i := d1) underlying24 sizeOf27 f5 f6) (AO.a rfl rfl (AO.nil (AX.seq (AX.sr (AO.m rfl rfl (AO.p rfl (p_len_slice rfl underlying24) (AO.m rfl rfl (AO.nil ?_))))))))
  obtain ⟨f8, f9, g0⟩ := bnd_some f4
  refine AX.cutS (fun t' H' => ∃ (b0 : List (List Int)) (b2 : Option Addr) (b4 : Nat) (b3 : Tb), b0 = f8 ∧ St [] H H' [oseg b2 (tcells b3), tseg b3] ∧ trows b3 = b0 ∧ TSb b3 ∧ Sb b2 (b0.length) b4 1 ∧ Am.Sub [(9, .slice b2 b0.length b4)] t') ?_ ?_
  ·refine AX.block (AX.loopF (fun s' t' H' => ∃ (a4 : List (List Int)) (a3 : Int) (b5 : Option Addr) (b6 : Nat) (a6 : Tb), (a4, a3) = s' ∧ St [] H H' [[(a7, AObj.row false ([.int .i64 a0]))], [(a8, AObj.row false ([.int .i64 a2]))], oseg b5 (tcells a6), tseg a6] ∧ trows a6 = a4 ∧ TSb a6 ∧ Sb b5 (a4.length) b6 1 ∧ Am.Sub [(3, .pointer (some ⟨a7, 0, none⟩)), (5, .pointer (some ⟨a8, 0, none⟩)), (9, .slice b5 a4.length b6), (21, .slice p_a1 a1.length c_a1), (22, .int .i64 ((a1.length : Nat) : Int)), (23, .int .i64 a3)] t') f9 ?_ ?_)
   ·skip
    have g1 := S125t.front 1 rfl
    have g2 := g1.front 1 rfl
    have g3 := g2.front 3 rfl
    have g4 := g3.front 4 rfl
    have g5 := g4.keep 4
    exact ⟨[], 0, (some (Addr.mk d1 0 none)), 0, [], rfl, g5, rfl, TSb.nil, (Sb.lit (n := 0) (by decide)), Sub.k4 rfl rfl rfl rfl (Sub.k2 rfl rfl (Sub.nil _))⟩
   ·rintro m9 _ t' n0 ⟨a4, a3, b5, b6, a6, rfl, a5, c1, d2, c2, g6⟩ n1 c3 d3
    refine AX.sub g6 ?_
    unfold D_impl_MultipleOf_s0 at c3
    refine AX.sr (AO.p rfl (p_lss rfl rfl) (AO.nil (AX.seq (AX.cond rfl (fun c4 => ?_) (fun c4 => ?_)))))
    ·have g7 := bif_t c4 c3
     refine AX.skip (AX.seq (AX.block (AX.sr ?_)))
     obtain ⟨d4, g8⟩ := chk_some g7
     obtain ⟨d5, n2, b7, d6⟩ := tget t_a1 (lt_len rfl (inR_lt d4))
     refine AO.p rfl (s_indexV (q := off p_a1 + a3.toNat) underlying24 sizeOf27 rfl ((a5.view v_a1).p d6) rfl d4 (o1 _ _)) (AO.c rfl (s_load isAgg27 rfl ((a5.view v_a1).get _ _ d6)) (AO.a rfl rfl (AO.nil (DR.startS [false, false, false, false, false, false, false, false, false, false, false, false, false, false, false, false, false, true, false] mix (by kernel_rfl) (fun hst => ?_)))))
     refine DR.p rfl rfl (p_move rfl) (DR.p rfl rfl (p_move rfl) ?_)
     obtain ⟨c5, g9⟩ := chk_some g8
     refine DR.p rfl rfl (s_indexV (q := off d5 + 0) underlying27 sizeOf2 rfl ((TVw.at (a5.tview w_a1) b7).p (ints_get (lt_len rfl (inR_lt c5)))) rfl c5 (o1 _ _)) (DR.r rfl rfl (r_load rfl isAgg2) (one_read ((TVw.at (a5.tview w_a1) b7).get _ _ (ints_get (lt_len rfl (inR_lt c5)))) (.of_flat0 rfl)) (DR.r rfl rfl (r_load rfl isAgg2) (one_read (row_cell (a5.get (k := 1) rfl) rfl) (.of_flat0 rfl)) ?_))
     obtain ⟨h0, h1⟩ := chk_some g9
     refine DR.p rfl rfl (p_mulE rfl rfl h0) (DR.r rfl rfl (r_load rfl isAgg2) (one_read (row_cell (a5.get (k := 0) rfl) rfl) (.of_flat0 rfl)) ?_)
     obtain ⟨h2, h3⟩ := chk_some h1
     refine DR.p rfl rfl (p_remE rfl rfl h2) (DR.p rfl rfl (p_move rfl) ?_)
     obtain ⟨c6, h4⟩ := chk_some h3
     refine DR.p rfl rfl (s_indexV (q := off d5 + 1) underlying27 sizeOf2 rfl ((TVw.at (a5.tview w_a1) b7).p (ints_get (lt_len rfl (inR_lt c6)))) rfl c6 (o1 _ _)) (DR.r rfl rfl (r_load rfl isAgg2) (one_read ((TVw.at (a5.tview w_a1) b7).get _ _ (ints_get (lt_len rfl (inR_lt c6)))) (.of_flat0 rfl)) (DR.r rfl rfl (r_load rfl isAgg2) (one_read (row_cell (a5.get (k := 1) rfl) rfl) (.of_flat0 rfl)) ?_))
     obtain ⟨h5, h6⟩ := chk_some h4
     refine DR.p rfl rfl (p_mulE rfl rfl h5) (DR.r rfl rfl (r_load rfl isAgg2) (one_read (row_cell (a5.get (k := 0) rfl) rfl) (.of_flat0 rfl)) ?_)
     obtain ⟨h7, h8⟩ := chk_some h6
     refine DR.p rfl rfl (p_remE rfl rfl h7) ?_
     obtain ⟨n3, b1, h9, i0, i1⟩ := a5.new (AObj.row false (ints [((rd (rw_ a1 a3.toNat) 0) * a2).tmod a0, ((rd (rw_ a1 a3.toNat) 1) * a2).tmod a0]))
     refine DR.a rfl rfl h9 i0 (a_buildInts (vs := [(0, .int .i64 (((rd (rw_ a1 a3.toNat) 0) * a2).tmod a0)), (1, .int .i64 (((rd (rw_ a1 a3.toNat) 1) * a2).tmod a0))]) (xs := [((rd (rw_ a1 a3.toNat) 0) * a2).tmod a0, ((rd (rw_ a1 a3.toNat) 1) * a2).tmod a0]) underlying27 sizeOf2 zeroValue2 rfl rfl (by decide) rfl rfl) ?_
     obtain ⟨n4, n5, i2, i3, i4⟩ := i1.new (AObj.row false (tcells ([((some (Addr.mk b1 0 none)), 2, [((rd (rw_ a1 a3.toNat) 0) * a2).tmod a0, ((rd (rw_ a1 a3.toNat) 1) * a2).tmod a0])])))
     have c7 := (i4.front 1 rfl).tone (some (Addr.mk b1 0 none)) 2 [((rd (rw_ a1 a3.toNat) 0) * a2).tmod a0, ((rd (rw_ a1 a3.toNat) 1) * a2).tmod a0] rfl
     refine DR.a rfl rfl i2 i3 (a_buildT1 (X := [((some (Addr.mk b1 0 none)), 2, [((rd (rw_ a1 a3.toNat) 0) * a2).tmod a0, ((rd (rw_ a1 a3.toNat) 1) * a2).tmod a0])]) (n := 2) rfl underlying24 sizeOf27 zeroValue27 rfl rfl) ?_
     obtain ⟨i5, i6⟩ := chk_some h8
     obtain ⟨d7, d8, n6, d9, i7, i8⟩ := c7.app (k := 4) rfl c2 (tcells ([((some (Addr.mk b1 0 none)), 2, [((rd (rw_ a1 a3.toNat) 0) * a2).tmod a0, ((rd (rw_ a1 a3.toNat) 1) * a2).tmod a0])])) 1 (tc_len1 rfl rfl)
     have i9 := i7.cellsEq (k := 4) (us' := tcells (a6 ++ [((some (Addr.mk b1 0 none)), 2, [((rd (rw_ a1 a3.toNat) 0) * a2).tmod a0, ((rd (rw_ a1 a3.toNat) 1) * a2).tmod a0])])) (tcells_app _ _).symm rfl
     have j0 : Sb d7 ((a4 ++ [[((rd (rw_ a1 a3.toNat) 0) * a2).tmod a0, ((rd (rw_ a1 a3.toNat) 1) * a2).tmod a0]]).length) d8 1 := (show a4.length + 1 = (a4 ++ [[((rd (rw_ a1 a3.toNat) 0) * a2).tmod a0, ((rd (rw_ a1 a3.toNat) 1) * a2).tmod a0]]).length from len_app (a := a4) (b := [[((rd (rw_ a1 a3.toNat) 0) * a2).tmod a0, ((rd (rw_ a1 a3.toNat) 1) * a2).tmod a0]]) rfl rfl) ▸ i8
     have j1 := i9.front 0 rfl
     have j2 := (j1.front 5 rfl).tmerge
     have j3 := j2.drop 1 rfl
     refine DR.w rfl rfl (s_app (by_ := 24) (us := tcells a6) (vs := tcells ([((some (Addr.mk b1 0 none)), 2, [((rd (rw_ a1 a3.toNat) 0) * a2).tmod a0, ((rd (rw_ a1 a3.toNat) 1) * a2).tmod a0])])) underlying24 underlying24 typeInfo27 sizeOf27 zeroValue27 rfl rfl rfl rfl rfl rfl rfl (c7.buf (k := 4) rfl c2 (tc_len1 c1 rfl)) (c7.oview (k := 1) rfl (Sb.lit (n := 1) (by decide)) (tc_len1 rfl rfl)) (tc_len1 rfl rfl) tcells_one i5 d9 (show a4.length + 1 = (a4 ++ [[((rd (rw_ a1 a3.toNat) 0) * a2).tmod a0, ((rd (rw_ a1 a3.toNat) 1) * a2).tmod a0]]).length from len_app (a := a4) (b := [[((rd (rw_ a1 a3.toNat) 0) * a2).tmod a0, ((rd (rw_ a1 a3.toNat) 1) * a2).tmod a0]]) rfl rfl)) (appR_len d9) (DR.p rfl rfl (p_assign rfl) (DR.nil 19 [] hst (by kernel_rfl) trivial (AX.region ?_)))
     obtain ⟨j4, j5⟩ := chk_some i6
     refine AO.p rfl (p_addE rfl rfl j4) (AO.m rfl rfl (AO.nil ?_))
     obtain rfl := some_inj j5
     have j6 := j3.front 0 rfl
     have j7 := j6.front 3 rfl
     have j8 := j7.front 3 rfl
     have j9 := j8.front 3 rfl
     exact ⟨((a4 ++ [[((rd (rw_ a1 a3.toNat) 0) * a2).tmod a0, ((rd (rw_ a1 a3.toNat) 1) * a2).tmod a0]]), a3 + 1), d3, (a4 ++ [[((rd (rw_ a1 a3.toNat) 0) * a2).tmod a0, ((rd (rw_ a1 a3.toNat) 1) * a2).tmod a0]]), (a3 + 1), d7, d8, (a6 ++ [((some (Addr.mk b1 0 none)), 2, [((rd (rw_ a1 a3.toNat) 0) * a2).tmod a0, ((rd (rw_ a1 a3.toNat) 1) * a2).tmod a0])]), rfl, j9, (trows_apps c1 rfl), (TSb.app d2 (TSb.one (sb_len rfl (Sb.lit (n := 2) (by decide))))), j0, Sub.k4 rfl rfl rfl rfl (Sub.k2 rfl rfl (Sub.nil _))⟩
    ·have k0 := bif_f c4 c3
     refine AX.exit ?_
     obtain rfl := some_inj k0
     have k3 := a5.front 3 rfl
     have k5 := k3.front 3 rfl
     have k6 := k5.keep 2
     exact ⟨a4, b5, b6, a6, d3, k6, c1, d2, c2, Sub.k1 rfl (Sub.nil _)⟩
  ·rintro t' k7 ⟨b0, b2, b4, b3, rfl, c8, e0, k8, k9, l0⟩
   refine ⟨_, l0, ?_⟩
   refine AX.sr (AO.m rfl rfl ?_)
   obtain ⟨l1, l2, l3⟩ := bnd_some g0
   obtain ⟨_, n7, l4, l5, l6, l7, rfl, l8, l9, m0, m1⟩ := W_impl_sortedPairs fu k7 b2 b4 b3 b0 e0 (c8.oview (k := 0) rfl k9 (tc_len1 e0 rfl)) (c8.oviewT (k := 1) rfl k8) l1 l2
   have m2 := c8.call l8
   refine AO.c rfl (o_call (vs := [.slice b2 b0.length b4]) rfl Tryz.call43 l4) (AO.a rfl rfl (AO.a rfl rfl (AO.nil (AX.ret ?_))))
   obtain ⟨rfl, rfl⟩ := Prod.mk.inj (some_inj l3)
   have m3 := m2.front 1 rfl
   have m4 := m3.front 1 rfl
   have m5 := m4.keep 2
   exact ⟨.inr rfl, _, res2 rfl (rv_tmp rfl) (rv_tmp rfl), l5, l6, l7, rfl, m5, l9, m0, m1⟩
end Go.Proofs.YtdafmafigcljkaaGreat
