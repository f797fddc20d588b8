/-
  The program computes that, printed by a program. No condition.
-/
import Derived.Test.YtdafmafigcljkaaDMc
import Derived.Test.YtdafmafigcljkaaWMa
import Derived.Test.YtdafmafigcljkaaWMb
import Derived.Test.YtdafmafigcljkaaProg
import Derived.KernelRfl
namespace Go.Proofs.Ytdafmafigcljkaa
open Go Go.RowKit Am
set_option linter.unusedVariables false
set_option linter.unusedSimpArgs false
set_option maxRecDepth 20000
set_option maxHeartbeats 4000000 in
theorem W_impl_divisor (fu : Nat) (H : AHeap) (a0 : Int) (a1 : Int) (r0 : Int) (hd : D_impl_divisor fu a0 a1 = some r0) : ACall Try.prog 91 [.int .i64 a0, .int .i64 a1] H (.int .i64 r0) H := by
  refine ACall.bodyP (N := 12) [(0, .int .i64 a0), (1, .int .i64 a1)] Try.func91 rfl rfl rfl rfl ?_
  unfold D_impl_divisor at hd
  have S0 : St [] H H [] := St.nil H
  refine AX.seq ?_
  refine AX.region ?_
  refine AO.p rfl (p_assign rfl) ?_
  refine AO.nil ?_
  obtain ⟨r129, hl130, hd131⟩ := bnd_some hd
  refine AX.cut (fun t' H' => ∃ (x128 : Int), x128 = r129 ∧ St [] H H' [] ∧ Am.Sub [(0, .int .i64 x128)] t') ?_ ?_
  · refine AX.block ?_
    refine AX.loopF (fun s' t' H' => ∃ (x118 : Int) (x119 : Int), (x118, x119) = s' ∧ St [] H H' [] ∧ Am.Sub [(0, .int .i64 x118), (1, .int .i64 x119)] t') hl130 ?_ ?_
    · skip
      exact ⟨a0, a1, rfl, S0, Sub.cons' rfl rfl (Sub.cons' rfl rfl (Sub.nil _))⟩
    · rintro n132 _ t' G136 ⟨x118, x119, rfl, S135, hsub137⟩ o138 ho133 hk134
      refine AX.sub hsub137 ?_
      unfold D_impl_divisor_s0 at ho133
      refine AX.seq ?_
      refine AX.seq ?_
      refine AX.region ?_
      refine AO.p rfl (p_move rfl) ?_
      refine AO.p rfl (p_neq rfl rfl) ?_
      refine AO.nil ?_
      refine AX.cond rfl (fun c139 => ?_) (fun c139 => ?_)
      · have hd140 := bif_t c139 ho133
        refine AX.skip ?_
        refine AX.block ?_
        refine DR.startS [false, false, false, false, false, false] mix (by kernel_rfl) (fun hst => ?_)
        refine DR.p rfl rfl (p_move rfl) ?_
        refine DR.p rfl rfl (p_move rfl) ?_
        refine DR.p rfl rfl (p_move rfl) ?_
        obtain ⟨k141, hd142⟩ := chk_some hd140
        refine DR.p rfl rfl (p_remE rfl rfl k141) ?_
        refine DR.p rfl rfl (p_assign rfl) ?_
        refine DR.p rfl rfl (p_assign rfl) ?_
        refine DR.nil 6 [] hst (by kernel_rfl) trivial ?_
        obtain rfl := some_inj hd142
        exact ⟨(x119, x118.tmod x119), hk134, x119, (x118.tmod x119), rfl, S135, Sub.cons' rfl rfl (Sub.cons' rfl rfl (Sub.nil _))⟩
      · have hd144 := bif_f c139 ho133
        refine AX.exit ?_
        obtain rfl := some_inj hd144
        exact ⟨x118, hk134, S135, Sub.cons' rfl rfl (Sub.nil _)⟩
  · rintro t' G146 ⟨x128, rfl, S145, hsub147⟩
    refine AX.sub hsub147 ?_
    refine AX.seq ?_
    refine AX.region ?_
    refine AO.p rfl (p_move rfl) ?_
    refine AO.p rfl (p_assign rfl) ?_
    refine AO.nil ?_
    refine AX.ret ?_
    obtain rfl := some_inj hd131
    exact ⟨.inr rfl, _, res1 rfl (rv_tmp rfl), rfl, (flatB_ok rfl), S145.hold⟩

set_option maxHeartbeats 4000000 in
theorem W_impl_MultipleOf_1 (fu : Nat) (H : AHeap) (i_b0 : Nat) (ro_b0 : Bool) (b0_0 : Int) (o_b0 : hget H i_b0 = .row ro_b0 ([.int .i64 b0_0])) (i_b1 : Nat) (ro_b1 : Bool) (b1_0 : Int) (o_b1 : hget H i_b1 = .row ro_b1 ([.int .i64 b1_0])) (r0 : Bool) (hd : D_impl_MultipleOf_1 fu b0_0 b1_0 = some r0) : ACall Try.prog 90 [.pointer (some ⟨i_b0, 0, none⟩), .pointer (some ⟨i_b1, 0, none⟩)] H (.bool r0) H := by
  refine ACall.bodyP (N := 13) [(0, .pointer (some ⟨i_b0, 0, none⟩)), (1, .pointer (some ⟨i_b1, 0, none⟩))] Try.func90 rfl rfl rfl rfl ?_
  unfold D_impl_MultipleOf_1 at hd
  have S0 : St [] H H [] := St.nil H
  refine AX.seq ?_
  refine AX.region ?_
  refine AO.p rfl (p_assign rfl) ?_
  refine AO.nil ?_
  obtain ⟨r114, hb115, hd116⟩ := bnd_some hd
  refine AX.cut (fun t' H' => ∃ (b113 : Bool), b113 = r114 ∧ St [] H H' [] ∧ Am.Sub [(2, .bool b113)] t') ?_ ?_
  · skip
    refine AX.region ?_
    refine AO.c rfl (s_load Try.isAgg2 rfl (row_cell (S0.old o_b0 (by simp)) rfl)) ?_
    refine AO.c rfl (s_load Try.isAgg2 rfl (row_cell (S0.old o_b1 (by simp)) rfl)) ?_
    obtain ⟨k117, hd118⟩ := chk_some hb115
    refine AO.p rfl (p_subE rfl rfl k117) ?_
    obtain ⟨b119, h120, hd121⟩ := bnd_some hd118
    refine AO.c rfl (o_call (vs := [.int .i64 b0_0, .int .i64 1, .int .i64 (b1_0 - 1)]) rfl Try.call52 (W_impl_between fu H b0_0 1 (b1_0 - 1) b119 h120)) ?_
    refine AO.p rfl (p_move rfl) ?_
    refine AO.cases (d := 7) rfl (fun c123 => ?_) (fun c123 => ?_)
    · have hd124 := bif_t c123 hd121
      refine AO.gc rfl rfl rfl (s_load Try.isAgg2 rfl (row_cell (S0.old o_b0 (by simp)) rfl)) ?_
      refine AO.gc rfl rfl rfl (s_load Try.isAgg2 rfl (row_cell (S0.old o_b1 (by simp)) rfl)) ?_
      obtain ⟨x125, h126, hd127⟩ := bnd_some hd124
      refine AO.gc rfl rfl rfl (o_call (vs := [.int .i64 b0_0, .int .i64 b1_0]) rfl Try.call91 (W_impl_divisor fu H b0_0 b1_0 x125 h126)) ?_
      refine AO.gp rfl rfl rfl (p_eql rfl rfl) ?_
      refine AO.p rfl (p_pickT rfl rfl) ?_
      refine AO.p rfl (p_assign rfl) ?_
      refine AO.nil ?_
      exact ⟨(decide (x125 = 1)), (some_inj hd127), S0, Sub.cons' rfl rfl (Sub.nil _)⟩
    · have hd129 := bif_f c123 hd121
      refine AO.gn rfl rfl rfl ?_
      refine AO.gn rfl rfl rfl ?_
      refine AO.gn rfl rfl rfl ?_
      refine AO.gn rfl rfl rfl ?_
      refine AO.p rfl (p_pickF rfl rfl) ?_
      refine AO.p rfl (p_assign rfl) ?_
      refine AO.nil ?_
      exact ⟨false, (some_inj hd129), S0, Sub.cons' rfl rfl (Sub.nil _)⟩
  · rintro t' G131 ⟨b113, rfl, S130, hsub132⟩
    refine AX.sub hsub132 ?_
    refine AX.ret ?_
    obtain rfl := some_inj hd116
    exact ⟨.inr rfl, _, res1 rfl (rv_tmp rfl), rfl, (flatB_ok rfl), S130.hold⟩

set_option maxHeartbeats 4000000 in
theorem W_impl_MultipleOf (fu : Nat) (H : AHeap) (a0 : Int) (p_a1 : Option Addr) (c_a1 : Nat) (T_a1 : Tb) (a1 : List (List Int)) (t_a1 : trows T_a1 = a1) (v_a1 : Vw H p_a1 a1.length c_a1 (tcells T_a1)) (w_a1 : TVw H T_a1) (a2 : Int) (r0 : List (List Int)) (r1 : Int) (hd : D_impl_MultipleOf fu a0 a1 a2 = some (r0, r1)) : ∃ v G', ACall Try.prog 32 [.int .i64 a0, .slice p_a1 a1.length c_a1, .int .i64 a2] H v G' ∧ ∃ (p_r0 : Option Addr) (c_r0 : Nat) (T_r0 : Tb), (v = .tuple #[.slice p_r0 r0.length c_r0, .int .i64 r1]) ∧ St [] H G' [oseg p_r0 (tcells T_r0), tseg T_r0] ∧ Sb p_r0 r0.length c_r0 1 ∧ trows T_r0 = r0 ∧ TSb T_r0 := by
  refine ACall.bodyX (args := [.int .i64 a0, .slice p_a1 a1.length c_a1, .int .i64 a2]) (N := 48) [(0, .int .i64 a0), (1, .slice p_a1 a1.length c_a1), (2, .int .i64 a2)] (fun v G' => ∃ (p_r0 : Option Addr) (c_r0 : Nat) (T_r0 : Tb), (v = .tuple #[.slice p_r0 r0.length c_r0, .int .i64 r1]) ∧ St [] H G' [oseg p_r0 (tcells T_r0), tseg T_r0] ∧ Sb p_r0 r0.length c_r0 1 ∧ trows T_r0 = r0 ∧ TSb T_r0) Try.func32 rfl rfl rfl rfl ?_
  unfold D_impl_MultipleOf at hd
  have S0 : St [] H H [] := St.nil H
  refine AX.seq ?_
  refine AX.region ?_
  obtain ⟨G100, i101, hii101, hHG100, S102⟩ := S0.new (AObj.row false ([.int .i64 a0]))
  refine AO.c rfl (s_box (i := i101) (cs := [.int .i64 a0]) rfl hii101 rfl hHG100) ?_
  obtain ⟨G104, i105, hii105, hHG104, S106⟩ := S102.new (AObj.row false ([.int .i64 a2]))
  refine AO.c rfl (s_box (i := i105) (cs := [.int .i64 a2]) rfl hii105 rfl hHG104) ?_
  refine AO.p rfl (p_assign rfl) ?_
  refine AO.p rfl (p_assign rfl) ?_
  refine AO.nil ?_
  refine AX.seq ?_
  refine AX.seq ?_
  refine AX.region ?_
  refine AO.c rfl (s_load Try.isAgg2 rfl (row_cell (S106.get (k := 1) rfl) rfl)) ?_
  refine AO.p rfl (p_makeFunc (fs := []) (cs := [.pointer (some ⟨i105, 0, none⟩), .pointer (some ⟨i101, 0, none⟩)]) rfl rfl) ?_
  refine AO.p rfl (p_move rfl) ?_
  obtain ⟨G108, i109, hii109, hHG108, S110⟩ := S106.new (AObj.row false ([.slice p_a1 a1.length c_a1]))
  refine AO.c rfl (s_buildSl (i := i109) (vs := [(0, .slice p_a1 a1.length c_a1)]) (cs := [.slice p_a1 a1.length c_a1]) Try.underlying25 Try.sizeOf43 Try.zeroValue43 rfl rfl (by decide) rfl rfl hii109 hHG108) ?_
  obtain ⟨x112, h113, hd114⟩ := bnd_some hd
  refine AO.c rfl (o_call (vs := [.int .i64 a0, .func (.func 90) #[] #[.pointer (some ⟨i105, 0, none⟩), .pointer (some ⟨i101, 0, none⟩)], .slice (some (Addr.mk i109 0 none)) 1 1]) rfl Try.call89 (W_impl_starterCode fu G108 a0 90 #[] #[.pointer (some ⟨i105, 0, none⟩), .pointer (some ⟨i101, 0, none⟩)] (fun _ => D_impl_MultipleOf_1 fu a2 a0) Try.call90 (fun G' hG  b' hb' => W_impl_MultipleOf_1 fu G' i105 false a2 (hG.get (S110.get (k := 1) rfl)) i101 false a0 (hG.get (S110.get (k := 2) rfl)) b' hb') (some (Addr.mk i109 0 none)) 1 [(p_a1, c_a1, T_a1)] [a1] (trows3_1 t_a1) (vw3_1 (S110.get (k := 0) rfl) t_a1 rfl) (TVw3.cons (S110.view v_a1) t_a1 rfl (S110.tview w_a1) TVw3.nil) x112 h113)) ?_
  refine AO.p rfl (p_assign rfl) ?_
  refine AO.nil ?_
  refine AX.seq ?_
  refine AX.region ?_
  refine AO.p rfl (p_move rfl) ?_
  refine AO.p rfl (p_neq rfl rfl) ?_
  refine AO.nil ?_
  refine AX.cond rfl (fun c116 => ?_) (fun c116 => ?_)
  · have hd117 := bif_t c116 hd114
    refine AX.seq ?_
    refine AX.region ?_
    refine AO.p rfl (p_move rfl) ?_
    refine AO.p rfl (p_assign rfl) ?_
    refine AO.p rfl (p_assign rfl) ?_
    refine AO.nil ?_
    refine AX.ret ?_
    obtain ⟨rfl, rfl⟩ := Prod.mk.inj (some_inj hd117)
    have S119 : St [] H G108 (tseg [] :: _) := S110.nilseg 0
    have S120 : St [] H G108 (oseg none (tcells []) :: _) := S119.nilseg 0
    have S121 := S120.keep 2
    exact ⟨.inr rfl, _, res2 rfl (rv_tmp rfl) (rv_tmp rfl), none, 0, [], rfl, S121, Sb.nil, rfl, TSb.nil⟩
  · have hd122 := bif_f c116 hd114
    refine AX.skip ?_
    refine AX.seq ?_
    refine AX.region ?_
    obtain ⟨G123, i124, hii124, hHG123, S125⟩ := S110.new (AObj.row false (tcells []))
    have S125t := S125.nilseg 1
    refine AO.c rfl (s_build0 (i := i124) Try.underlying43 Try.sizeOf58 hii124 hHG123) ?_
    refine AO.p rfl (p_assign rfl) ?_
    refine AO.nil ?_
    refine AX.seq ?_
    refine AX.seq ?_
    refine AX.region ?_
    refine AO.p rfl (p_move rfl) ?_
    refine AO.p rfl (p_len_slice rfl Try.underlying43) ?_
    refine AO.p rfl (p_move rfl) ?_
    refine AO.nil ?_
    obtain ⟨r286, hl287, hd288⟩ := bnd_some hd122
    refine AX.cutS (fun t' H' => ∃ (rs284 : List (List Int)) (p282 : Option Addr) (c283 : Nat) (T285 : Tb), rs284 = r286 ∧ St [] H H' [oseg p282 (tcells T285), tseg T285] ∧ trows T285 = rs284 ∧ TSb T285 ∧ Sb p282 (rs284.length) c283 1 ∧ Am.Sub [(9, .slice p282 rs284.length c283)] t') ?_ ?_
    · refine AX.block ?_
      refine AX.loopF (fun s' t' H' => ∃ (rs233 : List (List Int)) (x235 : Int) (p231 : Option Addr) (c232 : Nat) (T234 : Tb), (rs233, x235) = s' ∧ St [] H H' [[(i101, AObj.row false ([.int .i64 a0]))], [(i105, AObj.row false ([.int .i64 a2]))], oseg p231 (tcells T234), tseg T234] ∧ trows T234 = rs233 ∧ TSb T234 ∧ Sb p231 (rs233.length) c232 1 ∧ Am.Sub [(3, .pointer (some ⟨i101, 0, none⟩)), (5, .pointer (some ⟨i105, 0, none⟩)), (9, .slice p231 rs233.length c232), (21, .slice p_a1 a1.length c_a1), (22, .int .i64 ((a1.length : Nat) : Int)), (23, .int .i64 x235)] t') hl287 ?_ ?_
      · skip
        have S289 := S125t.front 1 rfl
        have S290 := S289.front 1 rfl
        have S291 := S290.front 3 rfl
        have S292 := S291.front 4 rfl
        have S293 := S292.keep 4
        exact ⟨[], 0, (some (Addr.mk i124 0 none)), 0, [], rfl, S293, rfl, TSb.nil, (Sb.lit (n := 0) (by decide)), Sub.cons' rfl rfl (Sub.cons' rfl rfl (Sub.cons' rfl rfl (Sub.cons' rfl rfl (Sub.cons' rfl rfl (Sub.cons' rfl rfl (Sub.nil _))))))⟩
      · rintro n294 _ t' G298 ⟨rs233, x235, p231, c232, T234, rfl, S297, tT234, sT234, Bo230, hsub299⟩ o300 ho295 hk296
        refine AX.sub hsub299 ?_
        unfold D_impl_MultipleOf_s0 at ho295
        refine AX.seq ?_
        refine AX.region ?_
        refine AO.p rfl (p_lss rfl rfl) ?_
        refine AO.nil ?_
        refine AX.seq ?_
        refine AX.cond rfl (fun c301 => ?_) (fun c301 => ?_)
        · have hd302 := bif_t c301 ho295
          refine AX.skip ?_
          refine AX.seq ?_
          refine AX.block ?_
          refine AX.seq ?_
          refine AX.region ?_
          obtain ⟨k303, hd304⟩ := chk_some hd302
          obtain ⟨p305, c306, e307, f308⟩ := tget t_a1 (lt_len rfl (inR_lt k303))
          refine AO.p rfl (s_indexV (q := off p_a1 + x235.toNat) Try.underlying43 Try.sizeOf58 rfl ((S297.view v_a1).p f308) rfl k303 (o1 _ _)) ?_
          refine AO.c rfl (s_load Try.isAgg58 rfl ((S297.view v_a1).get _ _ f308)) ?_
          refine AO.p rfl (p_assign rfl) ?_
          refine AO.nil ?_
          refine DR.startS [false, false, false, false, false, false, false, false, false, false, false, false, false, false, false, false, false, true, false] mix (by kernel_rfl) (fun hst => ?_)
          refine DR.p rfl rfl (p_move rfl) ?_
          refine DR.p rfl rfl (p_move rfl) ?_
          obtain ⟨k309, hd310⟩ := chk_some hd304
          refine DR.p rfl rfl (s_indexV (q := off p305 + 0) Try.underlying58 Try.sizeOf2 rfl ((TVw.at (S297.tview w_a1) e307).p (ints_get (lt_len rfl (inR_lt k309)))) rfl k309 (o1 _ _)) ?_
          refine DR.r rfl rfl (r_load rfl Try.isAgg2) (one_read ((TVw.at (S297.tview w_a1) e307).get _ _ (ints_get (lt_len rfl (inR_lt k309)))) (.of_flat0 rfl)) ?_
          refine DR.r rfl rfl (r_load rfl Try.isAgg2) (one_read (row_cell (S297.get (k := 1) rfl) rfl) (.of_flat0 rfl)) ?_
          obtain ⟨k311, hd312⟩ := chk_some hd310
          refine DR.p rfl rfl (p_mulE rfl rfl k311) ?_
          refine DR.r rfl rfl (r_load rfl Try.isAgg2) (one_read (row_cell (S297.get (k := 0) rfl) rfl) (.of_flat0 rfl)) ?_
          obtain ⟨k313, hd314⟩ := chk_some hd312
          refine DR.p rfl rfl (p_remE rfl rfl k313) ?_
          refine DR.p rfl rfl (p_move rfl) ?_
          obtain ⟨k315, hd316⟩ := chk_some hd314
          refine DR.p rfl rfl (s_indexV (q := off p305 + 1) Try.underlying58 Try.sizeOf2 rfl ((TVw.at (S297.tview w_a1) e307).p (ints_get (lt_len rfl (inR_lt k315)))) rfl k315 (o1 _ _)) ?_
          refine DR.r rfl rfl (r_load rfl Try.isAgg2) (one_read ((TVw.at (S297.tview w_a1) e307).get _ _ (ints_get (lt_len rfl (inR_lt k315)))) (.of_flat0 rfl)) ?_
          refine DR.r rfl rfl (r_load rfl Try.isAgg2) (one_read (row_cell (S297.get (k := 1) rfl) rfl) (.of_flat0 rfl)) ?_
          obtain ⟨k317, hd318⟩ := chk_some hd316
          refine DR.p rfl rfl (p_mulE rfl rfl k317) ?_
          refine DR.r rfl rfl (r_load rfl Try.isAgg2) (one_read (row_cell (S297.get (k := 0) rfl) rfl) (.of_flat0 rfl)) ?_
          obtain ⟨k319, hd320⟩ := chk_some hd318
          refine DR.p rfl rfl (p_remE rfl rfl k319) ?_
          obtain ⟨G321, i322, hii322, hHG321, S323⟩ := S297.new (AObj.row false (ints [((rd (rw_ a1 x235.toNat) 0) * a2).tmod a0, ((rd (rw_ a1 x235.toNat) 1) * a2).tmod a0]))
          refine DR.a rfl rfl hii322 hHG321 (a_buildInts (vs := [(0, .int .i64 (((rd (rw_ a1 x235.toNat) 0) * a2).tmod a0)), (1, .int .i64 (((rd (rw_ a1 x235.toNat) 1) * a2).tmod a0))]) (xs := [((rd (rw_ a1 x235.toNat) 0) * a2).tmod a0, ((rd (rw_ a1 x235.toNat) 1) * a2).tmod a0]) Try.underlying58 Try.sizeOf2 Try.zeroValue2 rfl rfl (by decide) rfl rfl) ?_
          obtain ⟨G325, i326, hii326, hHG325, S327⟩ := S323.new (AObj.row false (tcells ([((some (Addr.mk i322 0 none)), 2, [((rd (rw_ a1 x235.toNat) 0) * a2).tmod a0, ((rd (rw_ a1 x235.toNat) 1) * a2).tmod a0])])))
          have S329 := (S327.front 1 rfl).tone (some (Addr.mk i322 0 none)) 2 [((rd (rw_ a1 x235.toNat) 0) * a2).tmod a0, ((rd (rw_ a1 x235.toNat) 1) * a2).tmod a0] rfl
          refine DR.a rfl rfl hii326 hHG325 (a_buildT1 (X := [((some (Addr.mk i322 0 none)), 2, [((rd (rw_ a1 x235.toNat) 0) * a2).tmod a0, ((rd (rw_ a1 x235.toNat) 1) * a2).tmod a0])]) (n := 2) rfl Try.underlying43 Try.sizeOf58 Try.zeroValue58 rfl rfl) ?_
          obtain ⟨k330, hd331⟩ := chk_some hd320
          obtain ⟨p332, c333, G334, haG334, S335, Bp332⟩ := S329.app (k := 4) rfl Bo230 (tcells ([((some (Addr.mk i322 0 none)), 2, [((rd (rw_ a1 x235.toNat) 0) * a2).tmod a0, ((rd (rw_ a1 x235.toNat) 1) * a2).tmod a0])])) 1 (tc_len1 rfl rfl)
          have S336 := S335.cellsEq (k := 4) (us' := tcells (T234 ++ [((some (Addr.mk i322 0 none)), 2, [((rd (rw_ a1 x235.toNat) 0) * a2).tmod a0, ((rd (rw_ a1 x235.toNat) 1) * a2).tmod a0])])) (tcells_app _ _).symm rfl
          have BS336 : Sb p332 ((rs233 ++ [[((rd (rw_ a1 x235.toNat) 0) * a2).tmod a0, ((rd (rw_ a1 x235.toNat) 1) * a2).tmod a0]]).length) c333 1 := (show rs233.length + 1 = (rs233 ++ [[((rd (rw_ a1 x235.toNat) 0) * a2).tmod a0, ((rd (rw_ a1 x235.toNat) 1) * a2).tmod a0]]).length from len_app (a := rs233) (b := [[((rd (rw_ a1 x235.toNat) 0) * a2).tmod a0, ((rd (rw_ a1 x235.toNat) 1) * a2).tmod a0]]) rfl rfl) ▸ Bp332
          have S337 := S336.front 0 rfl
          have S338 := (S337.front 5 rfl).tmerge
          have S339 := S338.drop 1 rfl
          refine DR.w rfl rfl (s_app (by_ := 24) (us := tcells T234) (vs := tcells ([((some (Addr.mk i322 0 none)), 2, [((rd (rw_ a1 x235.toNat) 0) * a2).tmod a0, ((rd (rw_ a1 x235.toNat) 1) * a2).tmod a0])])) Try.underlying43 Try.underlying43 Try.typeInfo58 Try.sizeOf58 Try.zeroValue58 rfl rfl rfl rfl rfl rfl rfl (S329.buf (k := 4) rfl Bo230 (tc_len1 tT234 rfl)) (S329.oview (k := 1) rfl (Sb.lit (n := 1) (by decide)) (tc_len1 rfl rfl)) (tc_len1 rfl rfl) tcells_one k330 haG334 (show rs233.length + 1 = (rs233 ++ [[((rd (rw_ a1 x235.toNat) 0) * a2).tmod a0, ((rd (rw_ a1 x235.toNat) 1) * a2).tmod a0]]).length from len_app (a := rs233) (b := [[((rd (rw_ a1 x235.toNat) 0) * a2).tmod a0, ((rd (rw_ a1 x235.toNat) 1) * a2).tmod a0]]) rfl rfl)) (appR_len haG334) ?_
          refine DR.p rfl rfl (p_assign rfl) ?_
          refine DR.nil 19 [] hst (by kernel_rfl) trivial ?_
          refine AX.region ?_
          obtain ⟨k340, hd341⟩ := chk_some hd331
          refine AO.p rfl (p_addE rfl rfl k340) ?_
          refine AO.p rfl (p_move rfl) ?_
          refine AO.nil ?_
          obtain rfl := some_inj hd341
          have S343 := S339.front 0 rfl
          have S344 := S343.front 3 rfl
          have S345 := S344.front 3 rfl
          have S346 := S345.front 3 rfl
          exact ⟨((rs233 ++ [[((rd (rw_ a1 x235.toNat) 0) * a2).tmod a0, ((rd (rw_ a1 x235.toNat) 1) * a2).tmod a0]]), x235 + 1), hk296, (rs233 ++ [[((rd (rw_ a1 x235.toNat) 0) * a2).tmod a0, ((rd (rw_ a1 x235.toNat) 1) * a2).tmod a0]]), (x235 + 1), p332, c333, (T234 ++ [((some (Addr.mk i322 0 none)), 2, [((rd (rw_ a1 x235.toNat) 0) * a2).tmod a0, ((rd (rw_ a1 x235.toNat) 1) * a2).tmod a0])]), rfl, S346, (trows_apps tT234 rfl), (TSb.app sT234 (TSb.one (sb_len rfl (Sb.lit (n := 2) (by decide))))), BS336, Sub.cons' rfl rfl (Sub.cons' rfl rfl (Sub.cons' rfl rfl (Sub.cons' rfl rfl (Sub.cons' rfl rfl (Sub.cons' rfl rfl (Sub.nil _))))))⟩
        · have hd347 := bif_f c301 ho295
          refine AX.exit ?_
          obtain rfl := some_inj hd347
          have S348 := S297.front 3 rfl
          have S349 := S348.front 3 rfl
          have S350 := S349.keep 2
          exact ⟨rs233, p231, c232, T234, hk296, S350, tT234, sT234, Bo230, Sub.cons' rfl rfl (Sub.nil _)⟩
    · rintro t' G352 ⟨rs284, p282, c283, T285, rfl, S351, tT285, sT285, Bo281, hsub353⟩
      refine ⟨_, hsub353, ?_⟩
      refine AX.seq ?_
      refine AX.region ?_
      refine AO.p rfl (p_move rfl) ?_
      obtain ⟨rs354, h355, hd356⟩ := bnd_some hd288
      obtain ⟨_, G365, hc364, p357, c358, T361, rfl, S366, B360, t362, s363⟩ := W_impl_sortedPairs fu G352 p282 c283 T285 rs284 tT285 (S351.oview (k := 0) rfl Bo281 (tc_len1 tT285 rfl)) (S351.oviewT (k := 1) rfl sT285) rs354 h355
      have S367 := S351.call S366
      refine AO.c rfl (o_call (vs := [.slice p282 rs284.length c283]) rfl Try.call92 hc364) ?_
      refine AO.p rfl (p_assign rfl) ?_
      refine AO.p rfl (p_assign rfl) ?_
      refine AO.nil ?_
      refine AX.ret ?_
      obtain ⟨rfl, rfl⟩ := Prod.mk.inj (some_inj hd356)
      have S369 := S367.front 1 rfl
      have S370 := S369.front 1 rfl
      have S371 := S370.keep 2
      exact ⟨.inr rfl, _, res2 rfl (rv_tmp rfl) (rv_tmp rfl), p357, c358, T361, rfl, S371, B360, t362, s363⟩

end Go.Proofs.Ytdafmafigcljkaa
