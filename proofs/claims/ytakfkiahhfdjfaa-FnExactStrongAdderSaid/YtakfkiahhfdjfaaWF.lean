/-
  The program computes that, printed by a program. No condition.
-/
import Derived.Test.YtakfkiahhfdjfaaDF
import Derived.Test.YtakfkiahhfdjfaaWD
import Derived.Test.YtakfkiahhfdjfaaProg
import Derived.KernelRfl
namespace Go.Proofs.Ytakfkiahhfdjfaa
open Go Go.RowKit Am
set_option linter.unusedVariables false
set_option linter.unusedSimpArgs false
set_option maxRecDepth 20000
set_option maxHeartbeats 4000000 in
theorem W_spec_IsStrong (fu : Nat) (H : AHeap) (a0 : Int) (p_a1 : Option Addr) (c_a1 : Nat) (T_a1 : Tb) (a1 : List (List Int)) (t_a1 : trows T_a1 = a1) (v_a1 : Vw H p_a1 a1.length c_a1 (tcells T_a1)) (w_a1 : TVw H T_a1) (r0 : Bool) (r1 : Int) (hd : D_spec_IsStrong fu a0 a1 = some (r0, r1)) : ACall Try.prog 14 [.int .i64 a0, .slice p_a1 a1.length c_a1] H (.tuple #[.bool r0, .int .i64 r1]) H := by
  refine ACall.bodyP (N := 16) [(0, .int .i64 a0), (1, .slice p_a1 a1.length c_a1)] Try.func14 rfl rfl rfl rfl ?_
  unfold D_spec_IsStrong at hd
  have S0 : St [] H H [] := St.nil H
  refine AX.seq ?_
  refine AX.region ?_
  refine AO.p rfl (p_assign rfl) ?_
  refine AO.p rfl (p_assign rfl) ?_
  refine AO.nil ?_
  refine AX.seq ?_
  refine AX.seq ?_
  refine AX.region ?_
  refine AO.p rfl (p_move rfl) ?_
  refine AO.p rfl (p_move rfl) ?_
  obtain ⟨x100, h101, hd102⟩ := bnd_some hd
  refine AO.c rfl (o_call (vs := [.int .i64 a0, .slice p_a1 a1.length c_a1]) rfl Try.call52 (W_spec_l03Code fu H a0 p_a1 c_a1 T_a1 a1 t_a1 (S0.view v_a1) (S0.tview w_a1) x100 h101)) ?_
  refine AO.p rfl (p_assign rfl) ?_
  refine AO.nil ?_
  refine AX.seq ?_
  refine AX.region ?_
  refine AO.p rfl (p_move rfl) ?_
  refine AO.p rfl (p_neq rfl rfl) ?_
  refine AO.nil ?_
  refine AX.cond rfl (fun c104 => ?_) (fun c104 => ?_)
  · have hd105 := bif_t c104 hd102
    refine AX.seq ?_
    refine AX.region ?_
    refine AO.p rfl (p_move rfl) ?_
    refine AO.p rfl (p_assign rfl) ?_
    refine AO.p rfl (p_assign rfl) ?_
    refine AO.nil ?_
    refine AX.ret ?_
    obtain ⟨rfl, rfl⟩ := Prod.mk.inj (some_inj hd105)
    exact ⟨.inr rfl, _, res2 rfl (rv_tmp rfl) (rv_tmp rfl), rfl, (flat_t2 (flatB_ok rfl) (flatB_ok rfl)), S0.hold⟩
  · have hd107 := bif_f c104 hd102
    refine AX.skip ?_
    refine AX.seq ?_
    refine AX.region ?_
    refine AO.p rfl (p_move rfl) ?_
    refine AO.p rfl (p_move rfl) ?_
    obtain ⟨b108, h109, hd110⟩ := bnd_some hd107
    refine AO.c rfl (o_call (vs := [.int .i64 a0, .slice p_a1 a1.length c_a1]) rfl Try.call53 (W_spec_l03Strong fu H a0 p_a1 c_a1 T_a1 a1 t_a1 (S0.view v_a1) (S0.tview w_a1) b108 h109)) ?_
    refine AO.p rfl (p_assign rfl) ?_
    refine AO.p rfl (p_assign rfl) ?_
    refine AO.nil ?_
    refine AX.ret ?_
    obtain ⟨rfl, rfl⟩ := Prod.mk.inj (some_inj hd110)
    exact ⟨.inr rfl, _, res2 rfl (rv_tmp rfl) (rv_tmp rfl), rfl, (flat_t2 (flatB_ok rfl) (flatB_ok rfl)), S0.hold⟩

set_option maxHeartbeats 4000000 in
theorem W_impl_IsStrong (fu : Nat) (H : AHeap) (a0 : Int) (p_a1 : Option Addr) (c_a1 : Nat) (T_a1 : Tb) (a1 : List (List Int)) (t_a1 : trows T_a1 = a1) (v_a1 : Vw H p_a1 a1.length c_a1 (tcells T_a1)) (w_a1 : TVw H T_a1) (r0 : Bool) (r1 : Int) (hd : D_impl_IsStrong fu a0 a1 = some (r0, r1)) : ACall Try.prog 16 [.int .i64 a0, .slice p_a1 a1.length c_a1] H (.tuple #[.bool r0, .int .i64 r1]) H := by
  refine ACall.bodyP (N := 17) [(0, .int .i64 a0), (1, .slice p_a1 a1.length c_a1)] Try.func16 rfl rfl rfl rfl ?_
  unfold D_impl_IsStrong at hd
  have S0 : St [] H H [] := St.nil H
  refine AX.seq ?_
  refine AX.region ?_
  refine AO.p rfl (p_assign rfl) ?_
  refine AO.p rfl (p_assign rfl) ?_
  refine AO.nil ?_
  refine AX.seq ?_
  refine AX.seq ?_
  refine AX.region ?_
  refine AO.p rfl (p_move rfl) ?_
  refine AO.p rfl (p_move rfl) ?_
  obtain ⟨G100, i101, hii101, hHG100, S102⟩ := S0.new (AObj.row false ([.slice p_a1 a1.length c_a1]))
  refine AO.c rfl (s_buildSl (i := i101) (vs := [(0, .slice p_a1 a1.length c_a1)]) (cs := [.slice p_a1 a1.length c_a1]) Try.underlying92 Try.sizeOf22 Try.zeroValue22 rfl rfl (by decide) rfl rfl hii101 hHG100) ?_
  obtain ⟨x104, h105, hd106⟩ := bnd_some hd
  refine AO.c rfl (o_call (vs := [.int .i64 a0, .func (.func 55) #[] #[], .slice (some (Addr.mk i101 0 none)) 1 1]) rfl Try.call54 (W_impl_starterCode fu G100 a0 55 #[] #[] (fun _ => D_impl_always fu ) Try.call55 (fun G' hG  b' hb' => W_impl_always fu G'  b' hb') (some (Addr.mk i101 0 none)) 1 [(p_a1, c_a1, T_a1)] [a1] (trows3_1 t_a1) (vw3_1 (S102.get (k := 0) rfl) t_a1 rfl) (TVw3.cons (S102.view v_a1) t_a1 rfl (S102.tview w_a1) TVw3.nil) x104 h105)) ?_
  refine AO.p rfl (p_assign rfl) ?_
  refine AO.nil ?_
  refine AX.seq ?_
  refine AX.region ?_
  refine AO.p rfl (p_move rfl) ?_
  refine AO.p rfl (p_neq rfl rfl) ?_
  refine AO.nil ?_
  refine AX.cond rfl (fun c108 => ?_) (fun c108 => ?_)
  · have hd109 := bif_t c108 hd106
    refine AX.seq ?_
    refine AX.region ?_
    refine AO.p rfl (p_move rfl) ?_
    refine AO.p rfl (p_assign rfl) ?_
    refine AO.p rfl (p_assign rfl) ?_
    refine AO.nil ?_
    refine AX.ret ?_
    obtain ⟨rfl, rfl⟩ := Prod.mk.inj (some_inj hd109)
    exact ⟨.inr rfl, _, res2 rfl (rv_tmp rfl) (rv_tmp rfl), rfl, (flat_t2 (flatB_ok rfl) (flatB_ok rfl)), S102.hold⟩
  · have hd111 := bif_f c108 hd106
    refine AX.skip ?_
    refine AX.seq ?_
    refine AX.region ?_
    refine AO.p rfl (p_move rfl) ?_
    refine AO.p rfl (p_move rfl) ?_
    obtain ⟨b112, h113, hd114⟩ := bnd_some hd111
    refine AO.c rfl (o_call (vs := [.int .i64 a0, .slice p_a1 a1.length c_a1]) rfl Try.call56 (W_impl_isStrong fu G100 a0 p_a1 c_a1 T_a1 a1 t_a1 (S102.view v_a1) (S102.tview w_a1) b112 h113)) ?_
    refine AO.p rfl (p_assign rfl) ?_
    refine AO.p rfl (p_assign rfl) ?_
    refine AO.nil ?_
    refine AX.ret ?_
    obtain ⟨rfl, rfl⟩ := Prod.mk.inj (some_inj hd114)
    exact ⟨.inr rfl, _, res2 rfl (rv_tmp rfl) (rv_tmp rfl), rfl, (flat_t2 (flatB_ok rfl) (flatB_ok rfl)), S102.hold⟩

set_option maxHeartbeats 4000000 in
theorem W_spec_l03Skew (fu : Nat) (H : AHeap) (a0 : Int) (p_a1 : Option Addr) (c_a1 : Nat) (T_a1 : Tb) (a1 : List (List Int)) (t_a1 : trows T_a1 = a1) (v_a1 : Vw H p_a1 a1.length c_a1 (tcells T_a1)) (w_a1 : TVw H T_a1) (r0 : Bool) (hd : D_spec_l03Skew fu a0 a1 = some r0) : ACall Try.prog 90 [.int .i64 a0, .slice p_a1 a1.length c_a1] H (.bool r0) H := by
  refine ACall.bodyP (N := 37) [(0, .int .i64 a0), (1, .slice p_a1 a1.length c_a1)] Try.func90 rfl rfl rfl rfl ?_
  unfold D_spec_l03Skew at hd
  have S0 : St [] H H [] := St.nil H
  refine AX.seq ?_
  refine AX.region ?_
  refine AO.p rfl (p_assign rfl) ?_
  refine AO.nil ?_
  refine AX.seq ?_
  refine AX.region ?_
  refine AO.p rfl (p_move rfl) ?_
  refine AO.p rfl (p_move rfl) ?_
  obtain ⟨xs100, h101, hd102⟩ := bnd_some hd
  obtain ⟨_, G108, hc107, p103, c104, rfl, S109, B106⟩ := W_spec_l03Sums fu H a0 p_a1 c_a1 T_a1 a1 t_a1 (S0.view v_a1) (S0.tview w_a1) xs100 h101
  have S110 := S0.call S109
  refine AO.c rfl (o_call (vs := [.int .i64 a0, .slice p_a1 a1.length c_a1]) rfl Try.call92 hc107) ?_
  refine AO.p rfl (p_assign rfl) ?_
  refine AO.nil ?_
  refine AX.seq ?_
  refine AX.seq ?_
  refine AX.region ?_
  refine AO.p rfl (p_assign rfl) ?_
  refine AO.nil ?_
  obtain ⟨r434, hl435, hd436⟩ := bnd_some hd102
  refine AX.cutS (fun t' H' => .inl () = r434 ∧ St [] H H' [] ∧ Am.Sub [(0, .int .i64 a0), (1, .slice p_a1 a1.length c_a1)] t') ?_ ?_
  · refine AX.block ?_
    refine AX.loopF (fun s' t' H' => ∃ (x327 : Int), x327 = s' ∧ St [] H H' [oseg p103 (ints xs100)] ∧ Am.Sub [(0, .int .i64 a0), (1, .slice p_a1 a1.length c_a1), (5, .slice p103 xs100.length c104), (6, .int .i64 x327)] t') hl435 ?_ ?_
    · skip
      have S437 := S110.front 0 rfl
      exact ⟨0, rfl, S437, Sub.cons' rfl rfl (Sub.cons' rfl rfl (Sub.cons' rfl rfl (Sub.cons' rfl rfl (Sub.nil _))))⟩
    · rintro n438 _ t' G442 ⟨x327, rfl, S441, hsub443⟩ o444 ho439 hk440
      refine AX.sub hsub443 ?_
      unfold D_spec_l03Skew_s0 at ho439
      refine AX.seq ?_
      refine AX.seq ?_
      refine AX.region ?_
      refine AO.p rfl (p_move rfl) ?_
      refine AO.p rfl (p_move rfl) ?_
      refine AO.p rfl (p_len_slice rfl Try.underlying34) ?_
      refine AO.p rfl (p_lss rfl rfl) ?_
      refine AO.nil ?_
      refine AX.cond rfl (fun c445 => ?_) (fun c445 => ?_)
      · have hd446 := bif_t c445 ho439
        refine AX.skip ?_
        refine AX.seq ?_
        refine AX.block ?_
        refine AX.seq ?_
        refine AX.region ?_
        refine AO.p rfl (p_assign rfl) ?_
        refine AO.nil ?_
        obtain ⟨r513, hl514, hd515⟩ := bnd_some hd446
        refine AX.cutS (fun t' H' => .inl () = r513 ∧ St [] H H' [oseg p103 (ints xs100)] ∧ Am.Sub [(0, .int .i64 a0), (1, .slice p_a1 a1.length c_a1), (5, .slice p103 xs100.length c104), (6, .int .i64 x327)] t') ?_ ?_
        · refine AX.block ?_
          refine AX.loopF (fun s' t' H' => ∃ (x491 : Int), x491 = s' ∧ St [] H H' [oseg p103 (ints xs100)] ∧ Am.Sub [(0, .int .i64 a0), (1, .slice p_a1 a1.length c_a1), (5, .slice p103 xs100.length c104), (6, .int .i64 x327), (7, .int .i64 x491)] t') hl514 ?_ ?_
          · skip
            have S516 := S441.front 0 rfl
            exact ⟨0, rfl, S516, Sub.cons' rfl rfl (Sub.cons' rfl rfl (Sub.cons' rfl rfl (Sub.cons' rfl rfl (Sub.cons' rfl rfl (Sub.nil _)))))⟩
          · rintro n517 _ t' G521 ⟨x491, rfl, S520, hsub522⟩ o523 ho518 hk519
            refine AX.sub hsub522 ?_
            unfold D_spec_l03Skew_s1 at ho518
            refine AX.seq ?_
            refine AX.seq ?_
            refine AX.region ?_
            refine AO.p rfl (p_move rfl) ?_
            refine AO.p rfl (p_move rfl) ?_
            refine AO.p rfl (p_leq rfl rfl) ?_
            refine AO.nil ?_
            refine AX.cond rfl (fun c524 => ?_) (fun c524 => ?_)
            · have hd525 := bif_t c524 ho518
              refine AX.skip ?_
              refine AX.seq ?_
              refine AX.block ?_
              refine AX.seq ?_
              refine DR.startS [false, false, false, false, false, false, false, false, false, false, false, false] mix (by kernel_rfl) (fun hst => ?_)
              refine DR.p rfl rfl (p_move rfl) ?_
              refine DR.p rfl rfl (p_move rfl) ?_
              obtain ⟨k526, hd527⟩ := chk_some hd525
              refine DR.p rfl rfl (s_indexV (q := x327.toNat) Try.underlying34 Try.sizeOf2 rfl (B106.at (inR_pos k526)) rfl k526 (z1 _)) ?_
              refine DR.r rfl rfl (r_load rfl Try.isAgg2) (one_read (row_cell (S520.oat (k := 0) rfl (B106.at (inR_pos k526))) (ints_get (lt_len rfl (inR_lt k526)))) (.of_flat0 rfl)) ?_
              refine DR.p rfl rfl (p_move rfl) ?_
              refine DR.p rfl rfl (p_move rfl) ?_
              obtain ⟨k528, hd529⟩ := chk_some hd527
              refine DR.p rfl rfl (s_indexV (q := x491.toNat) Try.underlying34 Try.sizeOf2 rfl (B106.at (inR_pos k528)) rfl k528 (z1 _)) ?_
              refine DR.r rfl rfl (r_load rfl Try.isAgg2) (one_read (row_cell (S520.oat (k := 0) rfl (B106.at (inR_pos k528))) (ints_get (lt_len rfl (inR_lt k528)))) (.of_flat0 rfl)) ?_
              obtain ⟨k530, hd531⟩ := chk_some hd529
              refine DR.p rfl rfl (p_addE rfl rfl k530) ?_
              refine DR.p rfl rfl (p_move rfl) ?_
              obtain ⟨k532, hd533⟩ := chk_some hd531
              refine DR.p rfl rfl (p_remE rfl rfl k532) ?_
              refine DR.p rfl rfl (p_eql rfl rfl) ?_
              refine DR.nil 12 [] hst (by kernel_rfl) trivial ?_
              refine AX.cond rfl (fun c534 => ?_) (fun c534 => ?_)
              · have hd535 := bif_t c534 hd533
                refine AX.seq ?_
                refine AX.region ?_
                refine AO.p rfl (p_assign rfl) ?_
                refine AO.nil ?_
                refine AX.ret ?_
                obtain rfl := some_inj hd535
                have z536 : _ = r513 := hk519
                subst z536
                obtain rfl := some_inj hd515
                have z537 : _ = r434 := hk440
                subst z537
                obtain rfl := some_inj hd436
                exact ⟨.inr rfl, _, res1 rfl (rv_tmp rfl), rfl, (flatB_ok rfl), S520.hold⟩
              · have hd538 := bif_f c534 hd533
                refine AX.skip ?_
                refine AX.region ?_
                refine AO.p rfl (p_move rfl) ?_
                obtain ⟨k539, hd540⟩ := chk_some hd538
                refine AO.p rfl (p_addE rfl rfl k539) ?_
                refine AO.p rfl (p_assign rfl) ?_
                refine AO.nil ?_
                obtain rfl := some_inj hd540
                have S542 := S520.front 0 rfl
                exact ⟨x491 + 1, hk519, (x491 + 1), rfl, S542, Sub.cons' rfl rfl (Sub.cons' rfl rfl (Sub.cons' rfl rfl (Sub.cons' rfl rfl (Sub.cons' rfl rfl (Sub.nil _)))))⟩
            · have hd543 := bif_f c524 ho518
              refine AX.exit ?_
              obtain rfl := some_inj hd543
              have S544 := S520.front 0 rfl
              exact ⟨hk519, S544, Sub.cons' rfl rfl (Sub.cons' rfl rfl (Sub.cons' rfl rfl (Sub.cons' rfl rfl (Sub.nil _))))⟩
        · rintro t' G546 ⟨rfl, S545, hsub547⟩
          refine ⟨_, hsub547, ?_⟩
          refine AX.region ?_
          refine AO.p rfl (p_move rfl) ?_
          obtain ⟨k548, hd549⟩ := chk_some hd515
          refine AO.p rfl (p_addE rfl rfl k548) ?_
          refine AO.p rfl (p_assign rfl) ?_
          refine AO.nil ?_
          obtain rfl := some_inj hd549
          have S551 := S545.front 0 rfl
          exact ⟨x327 + 1, hk440, (x327 + 1), rfl, S551, Sub.cons' rfl rfl (Sub.cons' rfl rfl (Sub.cons' rfl rfl (Sub.cons' rfl rfl (Sub.nil _))))⟩
      · have hd553 := bif_f c445 ho439
        refine AX.exit ?_
        obtain rfl := some_inj hd553
        have S554 := S441.keep 0
        exact ⟨hk440, S554, Sub.cons' rfl rfl (Sub.cons' rfl rfl (Sub.nil _))⟩
  · rintro t' G556 ⟨rfl, S555, hsub557⟩
    refine ⟨_, hsub557, ?_⟩
    refine AX.seq ?_
    refine AX.region ?_
    refine AO.p rfl (p_move rfl) ?_
    refine AO.p rfl (p_move rfl) ?_
    obtain ⟨b558, h559, hd560⟩ := bnd_some hd436
    refine AO.c rfl (o_call (vs := [.int .i64 a0, .slice p_a1 a1.length c_a1]) rfl Try.call53 (W_spec_l03Strong fu G556 a0 p_a1 c_a1 T_a1 a1 t_a1 (S555.view v_a1) (S555.tview w_a1) b558 h559)) ?_
    refine AO.p rfl (p_assign rfl) ?_
    refine AO.nil ?_
    refine AX.ret ?_
    obtain rfl := some_inj hd560
    exact ⟨.inr rfl, _, res1 rfl (rv_tmp rfl), rfl, (flatB_ok rfl), S555.hold⟩

set_option maxHeartbeats 4000000 in
theorem W_spec_IsSkew (fu : Nat) (H : AHeap) (a0 : Int) (p_a1 : Option Addr) (c_a1 : Nat) (T_a1 : Tb) (a1 : List (List Int)) (t_a1 : trows T_a1 = a1) (v_a1 : Vw H p_a1 a1.length c_a1 (tcells T_a1)) (w_a1 : TVw H T_a1) (r0 : Bool) (r1 : Int) (hd : D_spec_IsSkew fu a0 a1 = some (r0, r1)) : ACall Try.prog 41 [.int .i64 a0, .slice p_a1 a1.length c_a1] H (.tuple #[.bool r0, .int .i64 r1]) H := by
  refine ACall.bodyP (N := 16) [(0, .int .i64 a0), (1, .slice p_a1 a1.length c_a1)] Try.func41 rfl rfl rfl rfl ?_
  unfold D_spec_IsSkew at hd
  have S0 : St [] H H [] := St.nil H
  refine AX.seq ?_
  refine AX.region ?_
  refine AO.p rfl (p_assign rfl) ?_
  refine AO.p rfl (p_assign rfl) ?_
  refine AO.nil ?_
  refine AX.seq ?_
  refine AX.seq ?_
  refine AX.region ?_
  refine AO.p rfl (p_move rfl) ?_
  refine AO.p rfl (p_move rfl) ?_
  obtain ⟨x100, h101, hd102⟩ := bnd_some hd
  refine AO.c rfl (o_call (vs := [.int .i64 a0, .slice p_a1 a1.length c_a1]) rfl Try.call52 (W_spec_l03Code fu H a0 p_a1 c_a1 T_a1 a1 t_a1 (S0.view v_a1) (S0.tview w_a1) x100 h101)) ?_
  refine AO.p rfl (p_assign rfl) ?_
  refine AO.nil ?_
  refine AX.seq ?_
  refine AX.region ?_
  refine AO.p rfl (p_move rfl) ?_
  refine AO.p rfl (p_neq rfl rfl) ?_
  refine AO.nil ?_
  refine AX.cond rfl (fun c104 => ?_) (fun c104 => ?_)
  · have hd105 := bif_t c104 hd102
    refine AX.seq ?_
    refine AX.region ?_
    refine AO.p rfl (p_move rfl) ?_
    refine AO.p rfl (p_assign rfl) ?_
    refine AO.p rfl (p_assign rfl) ?_
    refine AO.nil ?_
    refine AX.ret ?_
    obtain ⟨rfl, rfl⟩ := Prod.mk.inj (some_inj hd105)
    exact ⟨.inr rfl, _, res2 rfl (rv_tmp rfl) (rv_tmp rfl), rfl, (flat_t2 (flatB_ok rfl) (flatB_ok rfl)), S0.hold⟩
  · have hd107 := bif_f c104 hd102
    refine AX.skip ?_
    refine AX.seq ?_
    refine AX.region ?_
    refine AO.p rfl (p_move rfl) ?_
    refine AO.p rfl (p_move rfl) ?_
    obtain ⟨b108, h109, hd110⟩ := bnd_some hd107
    refine AO.c rfl (o_call (vs := [.int .i64 a0, .slice p_a1 a1.length c_a1]) rfl Try.call90 (W_spec_l03Skew fu H a0 p_a1 c_a1 T_a1 a1 t_a1 (S0.view v_a1) (S0.tview w_a1) b108 h109)) ?_
    refine AO.p rfl (p_assign rfl) ?_
    refine AO.p rfl (p_assign rfl) ?_
    refine AO.nil ?_
    refine AX.ret ?_
    obtain ⟨rfl, rfl⟩ := Prod.mk.inj (some_inj hd110)
    exact ⟨.inr rfl, _, res2 rfl (rv_tmp rfl) (rv_tmp rfl), rfl, (flat_t2 (flatB_ok rfl) (flatB_ok rfl)), S0.hold⟩

set_option maxHeartbeats 4000000 in
theorem W_impl_isSkew_1 (fu : Nat) (H : AHeap) (a0 : Int) (i_b0 : Nat) (ro_b0 : Bool) (p_b0_0 : Option Addr) (c_b0_0 : Nat) (b0_0 : List Int) (v_b0_0 : Vw H p_b0_0 b0_0.length c_b0_0 (ints b0_0)) (o_b0 : hget H i_b0 = .row ro_b0 ([.slice p_b0_0 b0_0.length c_b0_0])) (i_b1 : Nat) (ro_b1 : Bool) (b1_0 : Int) (o_b1 : hget H i_b1 = .row ro_b1 ([.int .i64 b1_0])) (r0 : Bool) (hd : D_impl_isSkew_1 fu a0 b0_0 b1_0 = some r0) : ACall Try.prog 119 [.int .i64 a0, .pointer (some ⟨i_b0, 0, none⟩), .pointer (some ⟨i_b1, 0, none⟩)] H (.bool r0) H := by
  refine ACall.bodyP (N := 10) [(0, .int .i64 a0), (1, .pointer (some ⟨i_b0, 0, none⟩)), (2, .pointer (some ⟨i_b1, 0, none⟩))] Try.func119 rfl rfl rfl rfl ?_
  unfold D_impl_isSkew_1 at hd
  have S0 : St [] H H [] := St.nil H
  refine AX.seq ?_
  refine AX.region ?_
  refine AO.p rfl (p_assign rfl) ?_
  refine AO.nil ?_
  refine AX.seq ?_
  refine AX.region ?_
  refine AO.c rfl (s_load Try.isAgg34 rfl (row_cell (S0.old o_b0 (by simp)) rfl)) ?_
  refine AO.c rfl (s_load Try.isAgg2 rfl (row_cell (S0.old o_b1 (by simp)) rfl)) ?_
  refine AO.p rfl (p_move rfl) ?_
  obtain ⟨k100, hd101⟩ := chk_some hd
  refine AO.p rfl (p_subE rfl rfl k100) ?_
  obtain ⟨b102, h103, hd104⟩ := bnd_some hd101
  refine AO.c rfl (o_call (vs := [.slice p_b0_0 b0_0.length c_b0_0, .int .i64 (b1_0 - a0)]) rfl Try.call103 (W_slices_Contains_Sint64_int64 fu H p_b0_0 c_b0_0 b0_0 (S0.view v_b0_0) (b1_0 - a0) b102 h103)) ?_
  refine AO.p rfl (p_assign rfl) ?_
  refine AO.nil ?_
  refine AX.ret ?_
  obtain rfl := some_inj hd104
  exact ⟨.inr rfl, _, res1 rfl (rv_tmp rfl), rfl, (flatB_ok rfl), S0.hold⟩

set_option maxHeartbeats 4000000 in
theorem W_impl_isSkew (fu : Nat) (H : AHeap) (a0 : Int) (p_a1 : Option Addr) (c_a1 : Nat) (T_a1 : Tb) (a1 : List (List Int)) (t_a1 : trows T_a1 = a1) (v_a1 : Vw H p_a1 a1.length c_a1 (tcells T_a1)) (w_a1 : TVw H T_a1) (r0 : Bool) (hd : D_impl_isSkew fu a0 a1 = some r0) : ACall Try.prog 91 [.int .i64 a0, .slice p_a1 a1.length c_a1] H (.bool r0) H := by
  refine ACall.bodyP (N := 18) [(0, .int .i64 a0), (1, .slice p_a1 a1.length c_a1)] Try.func91 rfl rfl rfl rfl ?_
  unfold D_impl_isSkew at hd
  have S0 : St [] H H [] := St.nil H
  refine AX.seq ?_
  refine AX.region ?_
  obtain ⟨G100, i101, hii101, hHG100, S102⟩ := S0.new (AObj.row false ([.int .i64 a0]))
  refine AO.c rfl (s_box (i := i101) (cs := [.int .i64 a0]) rfl hii101 rfl hHG100) ?_
  refine AO.p rfl (p_assign rfl) ?_
  refine AO.nil ?_
  refine AX.seq ?_
  refine AX.region ?_
  refine AO.c rfl (s_load Try.isAgg2 rfl (row_cell (S102.get (k := 0) rfl) rfl)) ?_
  refine AO.p rfl (p_move rfl) ?_
  obtain ⟨xs104, h105, hd106⟩ := bnd_some hd
  obtain ⟨_, G112, hc111, p107, c108, rfl, S113, B110⟩ := W_impl_sums fu G100 a0 p_a1 c_a1 T_a1 a1 t_a1 (S102.view v_a1) (S102.tview w_a1) xs104 h105
  have S114 := S102.call S113
  refine AO.c rfl (o_call (vs := [.int .i64 a0, .slice p_a1 a1.length c_a1]) rfl Try.call93 hc111) ?_
  obtain ⟨G115, i116, hii116, hHG115, S117⟩ := S114.new (AObj.row false ([.slice none 0 0]))
  refine AO.c rfl (s_alloc (i := i116) (cs := [.slice none 0 0]) Try.zeroValue34 rfl rfl hii116 hHG115) ?_
  obtain ⟨G119, hHG119, S120⟩ := S117.set (k := 0) (i := i116) rfl (AObj.row false ([.slice p107 xs104.length c108]))
  refine AO.s (s_store Try.sizeOf34 rfl rfl rfl (S117.get (k := 0) rfl) (Nat.le_of_ble_eq_true rfl) hHG119) ?_
  refine AO.nil ?_
  obtain ⟨r133, hb134, hd135⟩ := bnd_some hd106
  refine AX.cut (fun t' H' => ∃ (b132 : Bool), b132 = r133 ∧ St [] H H' [] ∧ Am.Sub [(4, .bool b132)] t') ?_ ?_
  · skip
    refine AX.region ?_
    refine AO.c rfl (s_load Try.isAgg2 rfl (row_cell (S120.get (k := 2) rfl) rfl)) ?_
    refine AO.p rfl (p_move rfl) ?_
    obtain ⟨b136, h137, hd138⟩ := bnd_some hb134
    refine AO.c rfl (o_call (vs := [.int .i64 a0, .slice p_a1 a1.length c_a1]) rfl Try.call56 (W_impl_isStrong fu G119 a0 p_a1 c_a1 T_a1 a1 t_a1 (S120.view v_a1) (S120.tview w_a1) b136 h137)) ?_
    refine AO.p rfl (p_move rfl) ?_
    refine AO.cases (d := 12) rfl (fun c140 => ?_) (fun c140 => ?_)
    · have hd141 := bif_t c140 hd138
      refine AO.gc rfl rfl rfl (s_load Try.isAgg34 rfl (row_cell (S120.get (k := 0) rfl) rfl)) ?_
      refine AO.gp rfl rfl rfl (p_makeFunc (fs := []) (cs := [.pointer (some ⟨i116, 0, none⟩), .pointer (some ⟨i101, 0, none⟩)]) rfl rfl) ?_
      obtain ⟨b142, h143, hd144⟩ := bnd_some hd141
      refine AO.gc rfl rfl rfl (o_call (vs := [.slice p107 xs104.length c108, .func (.func 119) #[] #[.pointer (some ⟨i116, 0, none⟩), .pointer (some ⟨i101, 0, none⟩)]]) rfl Try.call78 (W_slices_ContainsFunc_Sint64_int64 fu G119 p107 c108 xs104 (S120.oview (k := 1) rfl B110 (ints_len1 rfl)) 119 #[] #[.pointer (some ⟨i116, 0, none⟩), .pointer (some ⟨i101, 0, none⟩)] (fun x0' => D_impl_isSkew_1 fu x0' xs104 a0) Try.call119 (fun G' hG x0' b' hb' => W_impl_isSkew_1 fu G' x0' i116 false p107 c108 xs104 (hG.view (S120.oview (k := 1) rfl B110 (ints_len1 rfl))) (hG.get (S120.get (k := 0) rfl)) i101 false a0 (hG.get (S120.get (k := 2) rfl)) b' hb') b142 h143)) ?_
      refine AO.gp rfl rfl rfl (p_not rfl) ?_
      refine AO.p rfl (p_pickT rfl rfl) ?_
      refine AO.p rfl (p_assign rfl) ?_
      refine AO.nil ?_
      have S146 := S120.keep 0
      exact ⟨(!b142), (some_inj hd144), S146, Sub.cons' rfl rfl (Sub.nil _)⟩
    · have hd147 := bif_f c140 hd138
      refine AO.gn rfl rfl rfl ?_
      refine AO.gn rfl rfl rfl ?_
      refine AO.gn rfl rfl rfl ?_
      refine AO.gn rfl rfl rfl ?_
      refine AO.p rfl (p_pickF rfl rfl) ?_
      refine AO.p rfl (p_assign rfl) ?_
      refine AO.nil ?_
      have S148 := S120.keep 0
      exact ⟨false, (some_inj hd147), S148, Sub.cons' rfl rfl (Sub.nil _)⟩
  · rintro t' G150 ⟨b132, rfl, S149, hsub151⟩
    refine AX.sub hsub151 ?_
    refine AX.ret ?_
    obtain rfl := some_inj hd135
    exact ⟨.inr rfl, _, res1 rfl (rv_tmp rfl), rfl, (flatB_ok rfl), S149.hold⟩

set_option maxHeartbeats 4000000 in
theorem W_impl_IsSkew (fu : Nat) (H : AHeap) (a0 : Int) (p_a1 : Option Addr) (c_a1 : Nat) (T_a1 : Tb) (a1 : List (List Int)) (t_a1 : trows T_a1 = a1) (v_a1 : Vw H p_a1 a1.length c_a1 (tcells T_a1)) (w_a1 : TVw H T_a1) (r0 : Bool) (r1 : Int) (hd : D_impl_IsSkew fu a0 a1 = some (r0, r1)) : ACall Try.prog 42 [.int .i64 a0, .slice p_a1 a1.length c_a1] H (.tuple #[.bool r0, .int .i64 r1]) H := by
  refine ACall.bodyP (N := 17) [(0, .int .i64 a0), (1, .slice p_a1 a1.length c_a1)] Try.func42 rfl rfl rfl rfl ?_
  unfold D_impl_IsSkew at hd
  have S0 : St [] H H [] := St.nil H
  refine AX.seq ?_
  refine AX.region ?_
  refine AO.p rfl (p_assign rfl) ?_
  refine AO.p rfl (p_assign rfl) ?_
  refine AO.nil ?_
  refine AX.seq ?_
  refine AX.seq ?_
  refine AX.region ?_
  refine AO.p rfl (p_move rfl) ?_
  refine AO.p rfl (p_move rfl) ?_
  obtain ⟨G100, i101, hii101, hHG100, S102⟩ := S0.new (AObj.row false ([.slice p_a1 a1.length c_a1]))
  refine AO.c rfl (s_buildSl (i := i101) (vs := [(0, .slice p_a1 a1.length c_a1)]) (cs := [.slice p_a1 a1.length c_a1]) Try.underlying92 Try.sizeOf22 Try.zeroValue22 rfl rfl (by decide) rfl rfl hii101 hHG100) ?_
  obtain ⟨x104, h105, hd106⟩ := bnd_some hd
  refine AO.c rfl (o_call (vs := [.int .i64 a0, .func (.func 55) #[] #[], .slice (some (Addr.mk i101 0 none)) 1 1]) rfl Try.call54 (W_impl_starterCode fu G100 a0 55 #[] #[] (fun _ => D_impl_always fu ) Try.call55 (fun G' hG  b' hb' => W_impl_always fu G'  b' hb') (some (Addr.mk i101 0 none)) 1 [(p_a1, c_a1, T_a1)] [a1] (trows3_1 t_a1) (vw3_1 (S102.get (k := 0) rfl) t_a1 rfl) (TVw3.cons (S102.view v_a1) t_a1 rfl (S102.tview w_a1) TVw3.nil) x104 h105)) ?_
  refine AO.p rfl (p_assign rfl) ?_
  refine AO.nil ?_
  refine AX.seq ?_
  refine AX.region ?_
  refine AO.p rfl (p_move rfl) ?_
  refine AO.p rfl (p_neq rfl rfl) ?_
  refine AO.nil ?_
  refine AX.cond rfl (fun c108 => ?_) (fun c108 => ?_)
  · have hd109 := bif_t c108 hd106
    refine AX.seq ?_
    refine AX.region ?_
    refine AO.p rfl (p_move rfl) ?_
    refine AO.p rfl (p_assign rfl) ?_
    refine AO.p rfl (p_assign rfl) ?_
    refine AO.nil ?_
    refine AX.ret ?_
    obtain ⟨rfl, rfl⟩ := Prod.mk.inj (some_inj hd109)
    exact ⟨.inr rfl, _, res2 rfl (rv_tmp rfl) (rv_tmp rfl), rfl, (flat_t2 (flatB_ok rfl) (flatB_ok rfl)), S102.hold⟩
  · have hd111 := bif_f c108 hd106
    refine AX.skip ?_
    refine AX.seq ?_
    refine AX.region ?_
    refine AO.p rfl (p_move rfl) ?_
    refine AO.p rfl (p_move rfl) ?_
    obtain ⟨b112, h113, hd114⟩ := bnd_some hd111
    refine AO.c rfl (o_call (vs := [.int .i64 a0, .slice p_a1 a1.length c_a1]) rfl Try.call91 (W_impl_isSkew fu G100 a0 p_a1 c_a1 T_a1 a1 t_a1 (S102.view v_a1) (S102.tview w_a1) b112 h113)) ?_
    refine AO.p rfl (p_assign rfl) ?_
    refine AO.p rfl (p_assign rfl) ?_
    refine AO.nil ?_
    refine AX.ret ?_
    obtain ⟨rfl, rfl⟩ := Prod.mk.inj (some_inj hd114)
    exact ⟨.inr rfl, _, res2 rfl (rv_tmp rfl) (rv_tmp rfl), rfl, (flat_t2 (flatB_ok rfl) (flatB_ok rfl)), S102.hold⟩

set_option maxHeartbeats 4000000 in
theorem W_spec_StrongAdder (fu : Nat) (H : AHeap) (a0 : Int) (p_a1 : Option Addr) (c_a1 : Nat) (T_a1 : Tb) (a1 : List (List Int)) (t_a1 : trows T_a1 = a1) (v_a1 : Vw H p_a1 a1.length c_a1 (tcells T_a1)) (w_a1 : TVw H T_a1) (r0 : List Int) (r1 : Int) (hd : D_spec_StrongAdder fu a0 a1 = some (r0, r1)) : ∃ v G', ACall Try.prog 43 [.int .i64 a0, .slice p_a1 a1.length c_a1] H v G' ∧ ∃ (p_r0 : Option Addr) (c_r0 : Nat), (v = .tuple #[.slice p_r0 r0.length c_r0, .int .i64 r1]) ∧ St [] H G' [oseg p_r0 (ints r0)] ∧ Sb p_r0 r0.length c_r0 1 := by
  refine ACall.bodyX (args := [.int .i64 a0, .slice p_a1 a1.length c_a1]) (N := 40) [(0, .int .i64 a0), (1, .slice p_a1 a1.length c_a1)] (fun v G' => ∃ (p_r0 : Option Addr) (c_r0 : Nat), (v = .tuple #[.slice p_r0 r0.length c_r0, .int .i64 r1]) ∧ St [] H G' [oseg p_r0 (ints r0)] ∧ Sb p_r0 r0.length c_r0 1) Try.func43 rfl rfl rfl rfl ?_
  unfold D_spec_StrongAdder at hd
  have S0 : St [] H H [] := St.nil H
  refine AX.seq ?_
  refine AX.region ?_
  refine AO.p rfl (p_assign rfl) ?_
  refine AO.p rfl (p_assign rfl) ?_
  refine AO.nil ?_
  refine AX.seq ?_
  refine AX.seq ?_
  refine AX.region ?_
  refine AO.p rfl (p_move rfl) ?_
  refine AO.p rfl (p_move rfl) ?_
  obtain ⟨x100, h101, hd102⟩ := bnd_some hd
  refine AO.c rfl (o_call (vs := [.int .i64 a0, .slice p_a1 a1.length c_a1]) rfl Try.call52 (W_spec_l03Code fu H a0 p_a1 c_a1 T_a1 a1 t_a1 (S0.view v_a1) (S0.tview w_a1) x100 h101)) ?_
  refine AO.p rfl (p_assign rfl) ?_
  refine AO.nil ?_
  refine AX.seq ?_
  refine AX.region ?_
  refine AO.p rfl (p_move rfl) ?_
  refine AO.p rfl (p_neq rfl rfl) ?_
  refine AO.nil ?_
  refine AX.cond rfl (fun c104 => ?_) (fun c104 => ?_)
  · have hd105 := bif_t c104 hd102
    refine AX.seq ?_
    refine AX.region ?_
    refine AO.p rfl (p_move rfl) ?_
    refine AO.p rfl (p_assign rfl) ?_
    refine AO.p rfl (p_assign rfl) ?_
    refine AO.nil ?_
    refine AX.ret ?_
    obtain ⟨rfl, rfl⟩ := Prod.mk.inj (some_inj hd105)
    have S107 : St [] H H (oseg none (ints []) :: _) := S0.nilseg 0
    exact ⟨.inr rfl, _, res2 rfl (rv_tmp rfl) (rv_tmp rfl), none, 0, rfl, S107, Sb.nil⟩
  · have hd108 := bif_f c104 hd102
    refine AX.skip ?_
    refine AX.seq ?_
    refine AX.seq ?_
    refine AX.region ?_
    refine AO.p rfl (p_move rfl) ?_
    refine AO.p rfl (p_move rfl) ?_
    obtain ⟨b109, h110, hd111⟩ := bnd_some hd108
    refine AO.c rfl (o_call (vs := [.int .i64 a0, .slice p_a1 a1.length c_a1]) rfl Try.call53 (W_spec_l03Strong fu H a0 p_a1 c_a1 T_a1 a1 t_a1 (S0.view v_a1) (S0.tview w_a1) b109 h110)) ?_
    refine AO.p rfl (p_not rfl) ?_
    refine AO.nil ?_
    refine AX.cond rfl (fun c113 => ?_) (fun c113 => ?_)
    · have hd114 := bif_t c113 hd111
      refine AX.seq ?_
      refine AX.region ?_
      refine AO.p rfl (p_assign rfl) ?_
      refine AO.p rfl (p_assign rfl) ?_
      refine AO.nil ?_
      refine AX.ret ?_
      obtain ⟨rfl, rfl⟩ := Prod.mk.inj (some_inj hd114)
      have S116 : St [] H H (oseg none (ints []) :: _) := S0.nilseg 0
      exact ⟨.inr rfl, _, res2 rfl (rv_tmp rfl) (rv_tmp rfl), none, 0, rfl, S116, Sb.nil⟩
    · have hd117 := bif_f c113 hd111
      refine AX.skip ?_
      refine AX.seq ?_
      refine AX.region ?_
      refine AO.p rfl (p_move rfl) ?_
      refine AO.p rfl (p_move rfl) ?_
      obtain ⟨xs118, h119, hd120⟩ := bnd_some hd117
      obtain ⟨_, G126, hc125, p121, c122, rfl, S127, B124⟩ := W_spec_l03Sums fu H a0 p_a1 c_a1 T_a1 a1 t_a1 (S0.view v_a1) (S0.tview w_a1) xs118 h119
      have S128 := S0.call S127
      refine AO.c rfl (o_call (vs := [.int .i64 a0, .slice p_a1 a1.length c_a1]) rfl Try.call92 hc125) ?_
      obtain ⟨G129, i130, hii130, hHG129, S131⟩ := S128.new (AObj.row false (ints []))
      refine AO.c rfl (s_build0 (i := i130) Try.underlying34 Try.sizeOf2 hii130 hHG129) ?_
      refine AO.p rfl (p_assign rfl) ?_
      refine AO.p rfl (p_assign rfl) ?_
      refine AO.nil ?_
      refine AX.seq ?_
      refine AX.seq ?_
      refine AX.region ?_
      refine AO.p rfl (p_assign rfl) ?_
      refine AO.nil ?_
      obtain ⟨r223, hl224, hd225⟩ := bnd_some hd120
      refine AX.cutS (fun t' H' => ∃ (xs222 : List Int) (p220 : Option Addr) (c221 : Nat), xs222 = r223 ∧ St [] H H' [oseg p220 (ints xs222)] ∧ Sb p220 (xs222.length) c221 1 ∧ Am.Sub [(8, .slice p220 xs222.length c221)] t') ?_ ?_
      · refine AX.block ?_
        refine AX.loopF (fun s' t' H' => ∃ (xs193 : List Int) (x194 : Int) (p191 : Option Addr) (c192 : Nat), (xs193, x194) = s' ∧ St [] H H' [oseg p121 (ints xs118), oseg p191 (ints xs193)] ∧ Sb p191 (xs193.length) c192 1 ∧ Am.Sub [(0, .int .i64 a0), (7, .slice p121 xs118.length c122), (8, .slice p191 xs193.length c192), (9, .int .i64 x194)] t') hl224 ?_ ?_
        · skip
          have S226 := S131.front 0 rfl
          have S227 := S226.front 1 rfl
          exact ⟨[], 0, (some (Addr.mk i130 0 none)), 0, rfl, S227, (Sb.lit (n := 0) (by decide)), Sub.cons' rfl rfl (Sub.cons' rfl rfl (Sub.cons' rfl rfl (Sub.cons' rfl rfl (Sub.nil _))))⟩
        · rintro n228 _ t' G232 ⟨xs193, x194, p191, c192, rfl, S231, Bo190, hsub233⟩ o234 ho229 hk230
          refine AX.sub hsub233 ?_
          unfold D_spec_StrongAdder_s0 at ho229
          refine AX.seq ?_
          refine AX.seq ?_
          refine AX.region ?_
          refine AO.p rfl (p_move rfl) ?_
          refine AO.p rfl (p_move rfl) ?_
          refine AO.p rfl (p_len_slice rfl Try.underlying34) ?_
          refine AO.p rfl (p_lss rfl rfl) ?_
          refine AO.nil ?_
          refine AX.cond rfl (fun c235 => ?_) (fun c235 => ?_)
          · have hd236 := bif_t c235 ho229
            refine AX.skip ?_
            refine AX.seq ?_
            refine AX.block ?_
            refine AX.region ?_
            refine AO.p rfl (p_move rfl) ?_
            refine AO.p rfl (p_move rfl) ?_
            refine AO.p rfl (p_move rfl) ?_
            refine AO.p rfl (p_move rfl) ?_
            obtain ⟨k237, hd238⟩ := chk_some hd236
            refine AO.p rfl (s_indexV (q := x194.toNat) Try.underlying34 Try.sizeOf2 rfl (B124.at (inR_pos k237)) rfl k237 (z1 _)) ?_
            refine AO.c rfl (s_load Try.isAgg2 rfl (row_cell (S231.oat (k := 0) rfl (B124.at (inR_pos k237))) (ints_get (lt_len rfl (inR_lt k237))))) ?_
            obtain ⟨k239, hd240⟩ := chk_some hd238
            refine AO.p rfl (p_subE rfl rfl k239) ?_
            obtain ⟨G241, i242, hii242, hHG241, S243⟩ := S231.new (AObj.row false (ints [a0 - (rd xs118 x194.toNat)]))
            refine AO.c rfl (s_buildInts (i := i242) (vs := [(0, .int .i64 (a0 - (rd xs118 x194.toNat)))]) (xs := [a0 - (rd xs118 x194.toNat)]) Try.underlying34 Try.sizeOf2 Try.zeroValue2 rfl rfl (by decide) rfl rfl hii242 hHG241) ?_
            obtain ⟨k245, hd246⟩ := chk_some hd240
            obtain ⟨p247, c248, G249, haG249, S250, Bp247⟩ := S243.app (k := 2) rfl Bo190 (ints [a0 - (rd xs118 x194.toNat)]) 1 (ints_len1 rfl)
            have S251 := S250.cellsEq (k := 2) (us' := ints (xs193 ++ [a0 - (rd xs118 x194.toNat)])) (ints_app _ _) rfl
            have BS251 : Sb p247 ((xs193 ++ [a0 - (rd xs118 x194.toNat)]).length) c248 1 := (show xs193.length + 1 = (xs193 ++ [a0 - (rd xs118 x194.toNat)]).length from len_app (a := xs193) (b := [a0 - (rd xs118 x194.toNat)]) rfl rfl) ▸ Bp247
            have S252 := S251.drop 0 rfl
            refine AO.c rfl (s_app (by_ := 8) (us := ints xs193) (vs := ints [a0 - (rd xs118 x194.toNat)]) Try.underlying34 Try.underlying34 Try.typeInfo2 Try.sizeOf2 Try.zeroValue2 rfl rfl rfl rfl rfl rfl rfl (S243.buf (k := 2) rfl Bo190 (ints_len1 rfl)) (S243.oview (k := 0) rfl (Sb.lit (n := 1) (by decide)) (ints_len1 rfl)) (ints_len1 rfl) ints_one k245 haG249 (show xs193.length + 1 = (xs193 ++ [a0 - (rd xs118 x194.toNat)]).length from len_app (a := xs193) (b := [a0 - (rd xs118 x194.toNat)]) rfl rfl)) ?_
            refine AO.p rfl (p_assign rfl) ?_
            refine AO.nil ?_
            refine AX.region ?_
            refine AO.p rfl (p_move rfl) ?_
            obtain ⟨k253, hd254⟩ := chk_some hd246
            refine AO.p rfl (p_addE rfl rfl k253) ?_
            refine AO.p rfl (p_assign rfl) ?_
            refine AO.nil ?_
            obtain rfl := some_inj hd254
            have S256 := S252.front 1 rfl
            have S257 := S256.front 1 rfl
            exact ⟨((xs193 ++ [a0 - (rd xs118 x194.toNat)]), x194 + 1), hk230, (xs193 ++ [a0 - (rd xs118 x194.toNat)]), (x194 + 1), p247, c248, rfl, S257, BS251, Sub.cons' rfl rfl (Sub.cons' rfl rfl (Sub.cons' rfl rfl (Sub.cons' rfl rfl (Sub.nil _))))⟩
          · have hd258 := bif_f c235 ho229
            refine AX.exit ?_
            obtain rfl := some_inj hd258
            have S259 := S231.front 1 rfl
            have S260 := S259.keep 1
            exact ⟨xs193, p191, c192, hk230, S260, Bo190, Sub.cons' rfl rfl (Sub.nil _)⟩
      · rintro t' G262 ⟨xs222, p220, c221, rfl, S261, Bo219, hsub263⟩
        refine ⟨_, hsub263, ?_⟩
        refine AX.seq ?_
        refine AX.region ?_
        refine AO.p rfl (p_move rfl) ?_
        refine AO.p rfl (p_assign rfl) ?_
        refine AO.p rfl (p_assign rfl) ?_
        refine AO.nil ?_
        refine AX.ret ?_
        obtain ⟨rfl, rfl⟩ := Prod.mk.inj (some_inj hd225)
        have S265 := S261.front 0 rfl
        exact ⟨.inr rfl, _, res2 rfl (rv_tmp rfl) (rv_tmp rfl), p220, c221, rfl, S265, Bo219⟩

set_option maxHeartbeats 4000000 in
theorem W_impl_StrongAdder (fu : Nat) (H : AHeap) (a0 : Int) (p_a1 : Option Addr) (c_a1 : Nat) (T_a1 : Tb) (a1 : List (List Int)) (t_a1 : trows T_a1 = a1) (v_a1 : Vw H p_a1 a1.length c_a1 (tcells T_a1)) (w_a1 : TVw H T_a1) (r0 : List Int) (r1 : Int) (hd : D_impl_StrongAdder fu a0 a1 = some (r0, r1)) : ∃ v G', ACall Try.prog 44 [.int .i64 a0, .slice p_a1 a1.length c_a1] H v G' ∧ ∃ (p_r0 : Option Addr) (c_r0 : Nat), (v = .tuple #[.slice p_r0 r0.length c_r0, .int .i64 r1]) ∧ St [] H G' [oseg p_r0 (ints r0)] ∧ Sb p_r0 r0.length c_r0 1 := by
  refine ACall.bodyX (args := [.int .i64 a0, .slice p_a1 a1.length c_a1]) (N := 42) [(0, .int .i64 a0), (1, .slice p_a1 a1.length c_a1)] (fun v G' => ∃ (p_r0 : Option Addr) (c_r0 : Nat), (v = .tuple #[.slice p_r0 r0.length c_r0, .int .i64 r1]) ∧ St [] H G' [oseg p_r0 (ints r0)] ∧ Sb p_r0 r0.length c_r0 1) Try.func44 rfl rfl rfl rfl ?_
  unfold D_impl_StrongAdder at hd
  have S0 : St [] H H [] := St.nil H
  refine AX.seq ?_
  refine AX.region ?_
  refine AO.p rfl (p_assign rfl) ?_
  refine AO.p rfl (p_assign rfl) ?_
  refine AO.nil ?_
  refine AX.seq ?_
  refine AX.region ?_
  refine AO.p rfl (p_move rfl) ?_
  refine AO.p rfl (p_move rfl) ?_
  obtain ⟨G100, i101, hii101, hHG100, S102⟩ := S0.new (AObj.row false ([.slice p_a1 a1.length c_a1]))
  refine AO.c rfl (s_buildSl (i := i101) (vs := [(0, .slice p_a1 a1.length c_a1)]) (cs := [.slice p_a1 a1.length c_a1]) Try.underlying92 Try.sizeOf22 Try.zeroValue22 rfl rfl (by decide) rfl rfl hii101 hHG100) ?_
  obtain ⟨x104, h105, hd106⟩ := bnd_some hd
  refine AO.c rfl (o_call (vs := [.int .i64 a0, .func (.func 55) #[] #[], .slice (some (Addr.mk i101 0 none)) 1 1]) rfl Try.call54 (W_impl_starterCode fu G100 a0 55 #[] #[] (fun _ => D_impl_always fu ) Try.call55 (fun G' hG  b' hb' => W_impl_always fu G'  b' hb') (some (Addr.mk i101 0 none)) 1 [(p_a1, c_a1, T_a1)] [a1] (trows3_1 t_a1) (vw3_1 (S102.get (k := 0) rfl) t_a1 rfl) (TVw3.cons (S102.view v_a1) t_a1 rfl (S102.tview w_a1) TVw3.nil) x104 h105)) ?_
  refine AO.p rfl (p_assign rfl) ?_
  refine AO.nil ?_
  refine AX.seq ?_
  obtain ⟨r116, hb117, hd118⟩ := bnd_some hd106
  refine AX.cut (fun t' H' => ∃ (b115 : Bool), b115 = r116 ∧ St [] H H' [] ∧ Am.Sub [(0, .int .i64 a0), (1, .slice p_a1 a1.length c_a1), (6, .int .i64 x104), (21, .bool b115)] t') ?_ ?_
  · skip
    refine AX.region ?_
    refine AO.p rfl (p_move rfl) ?_
    refine AO.p rfl (p_eql rfl rfl) ?_
    refine AO.p rfl (p_move rfl) ?_
    refine AO.cases (d := 16) rfl (fun c119 => ?_) (fun c119 => ?_)
    · have hd120 := bif_t c119 hb117
      refine AO.gp rfl rfl rfl (p_move rfl) ?_
      refine AO.gp rfl rfl rfl (p_move rfl) ?_
      obtain ⟨b121, h122, hd123⟩ := bnd_some hd120
      refine AO.gc rfl rfl rfl (o_call (vs := [.int .i64 a0, .slice p_a1 a1.length c_a1]) rfl Try.call56 (W_impl_isStrong fu G100 a0 p_a1 c_a1 T_a1 a1 t_a1 (S102.view v_a1) (S102.tview w_a1) b121 h122)) ?_
      refine AO.gp rfl rfl rfl (p_not rfl) ?_
      refine AO.p rfl (p_pickT rfl rfl) ?_
      refine AO.nil ?_
      have S125 := S102.keep 0
      exact ⟨(!b121), (some_inj hd123), S125, Sub.cons' rfl rfl (Sub.cons' rfl rfl (Sub.cons' rfl rfl (Sub.cons' rfl rfl (Sub.nil _))))⟩
    · have hd126 := bif_f c119 hb117
      refine AO.gn rfl rfl rfl ?_
      refine AO.gn rfl rfl rfl ?_
      refine AO.gn rfl rfl rfl ?_
      refine AO.gn rfl rfl rfl ?_
      refine AO.p rfl (p_pickF rfl rfl) ?_
      refine AO.nil ?_
      have S127 := S102.keep 0
      exact ⟨false, (some_inj hd126), S127, Sub.cons' rfl rfl (Sub.cons' rfl rfl (Sub.cons' rfl rfl (Sub.cons' rfl rfl (Sub.nil _))))⟩
  · rintro t' G129 ⟨b115, rfl, S128, hsub130⟩
    refine AX.sub hsub130 ?_
    obtain ⟨r135, hb136, hd137⟩ := bnd_some hd118
    refine AX.cutS (fun t' H' => ∃ (x134 : Int), x134 = r135 ∧ St [] H H' [] ∧ Am.Sub [(0, .int .i64 a0), (1, .slice p_a1 a1.length c_a1), (6, .int .i64 x134)] t') ?_ ?_
    · skip
      refine AX.cond rfl (fun c138 => ?_) (fun c138 => ?_)
      · have hd139 := bif_t c138 hb136
        refine AX.region ?_
        refine AO.p rfl (p_assign rfl) ?_
        refine AO.nil ?_
        exact ⟨5, (some_inj hd139), S128, Sub.cons' rfl rfl (Sub.cons' rfl rfl (Sub.cons' rfl rfl (Sub.nil _)))⟩
      · have hd140 := bif_f c138 hb136
        refine AX.skip ?_
        exact ⟨x104, (some_inj hd140), S128, Sub.cons' rfl rfl (Sub.cons' rfl rfl (Sub.cons' rfl rfl (Sub.nil _)))⟩
    · rintro t' G142 ⟨x134, rfl, S141, hsub143⟩
      refine ⟨_, hsub143, ?_⟩
      refine AX.seq ?_
      refine AX.seq ?_
      refine AX.region ?_
      refine AO.p rfl (p_move rfl) ?_
      refine AO.p rfl (p_neq rfl rfl) ?_
      refine AO.nil ?_
      refine AX.cond rfl (fun c144 => ?_) (fun c144 => ?_)
      · have hd145 := bif_t c144 hd137
        refine AX.seq ?_
        refine AX.region ?_
        refine AO.p rfl (p_move rfl) ?_
        refine AO.p rfl (p_assign rfl) ?_
        refine AO.p rfl (p_assign rfl) ?_
        refine AO.nil ?_
        refine AX.ret ?_
        obtain ⟨rfl, rfl⟩ := Prod.mk.inj (some_inj hd145)
        have S147 : St [] H G142 (oseg none (ints []) :: _) := S141.nilseg 0
        exact ⟨.inr rfl, _, res2 rfl (rv_tmp rfl) (rv_tmp rfl), none, 0, rfl, S147, Sb.nil⟩
      · have hd148 := bif_f c144 hd137
        refine AX.skip ?_
        refine AX.seq ?_
        refine AX.region ?_
        obtain ⟨G149, i150, hii150, hHG149, S151⟩ := S141.new (AObj.row false (ints []))
        refine AO.c rfl (s_build0 (i := i150) Try.underlying34 Try.sizeOf2 hii150 hHG149) ?_
        refine AO.p rfl (p_assign rfl) ?_
        refine AO.nil ?_
        refine AX.seq ?_
        refine AX.seq ?_
        refine AX.region ?_
        refine AO.p rfl (p_move rfl) ?_
        refine AO.p rfl (p_move rfl) ?_
        obtain ⟨xs153, h154, hd155⟩ := bnd_some hd148
        obtain ⟨_, G161, hc160, p156, c157, rfl, S162, B159⟩ := W_impl_sums fu G149 a0 p_a1 c_a1 T_a1 a1 t_a1 (S151.view v_a1) (S151.tview w_a1) xs153 h154
        have S163 := S151.call S162
        refine AO.c rfl (o_call (vs := [.int .i64 a0, .slice p_a1 a1.length c_a1]) rfl Try.call93 hc160) ?_
        refine AO.p rfl (p_len_slice rfl Try.underlying34) ?_
        refine AO.p rfl (p_move rfl) ?_
        refine AO.nil ?_
        obtain ⟨r254, hl255, hd256⟩ := bnd_some hd155
        refine AX.cutS (fun t' H' => ∃ (xs253 : List Int) (p251 : Option Addr) (c252 : Nat), xs253 = r254 ∧ St [] H H' [oseg p251 (ints xs253)] ∧ Sb p251 (xs253.length) c252 1 ∧ Am.Sub [(7, .slice p251 xs253.length c252)] t') ?_ ?_
        · refine AX.block ?_
          refine AX.loopF (fun s' t' H' => ∃ (xs223 : List Int) (x225 : Int) (p221 : Option Addr) (c222 : Nat), (xs223, x225) = s' ∧ St [] H H' [oseg p221 (ints xs223), oseg p156 (ints xs153)] ∧ Sb p221 (xs223.length) c222 1 ∧ Am.Sub [(0, .int .i64 a0), (7, .slice p221 xs223.length c222), (28, .slice p156 xs153.length c157), (29, .int .i64 ((xs153.length : Nat) : Int)), (30, .int .i64 x225)] t') hl255 ?_ ?_
          · skip
            have S257 := S163.front 0 rfl
            have S258 := S257.front 1 rfl
            exact ⟨[], 0, (some (Addr.mk i150 0 none)), 0, rfl, S258, (Sb.lit (n := 0) (by decide)), Sub.cons' rfl rfl (Sub.cons' rfl rfl (Sub.cons' rfl rfl (Sub.cons' rfl rfl (Sub.cons' rfl rfl (Sub.nil _)))))⟩
          · rintro n259 _ t' G263 ⟨xs223, x225, p221, c222, rfl, S262, Bo220, hsub264⟩ o265 ho260 hk261
            refine AX.sub hsub264 ?_
            unfold D_impl_StrongAdder_s0 at ho260
            refine AX.seq ?_
            refine AX.region ?_
            refine AO.p rfl (p_lss rfl rfl) ?_
            refine AO.nil ?_
            refine AX.seq ?_
            refine AX.cond rfl (fun c266 => ?_) (fun c266 => ?_)
            · have hd267 := bif_t c266 ho260
              refine AX.skip ?_
              refine AX.seq ?_
              refine AX.block ?_
              refine AX.seq ?_
              refine AX.region ?_
              obtain ⟨k268, hd269⟩ := chk_some hd267
              refine AO.p rfl (s_indexV (q := x225.toNat) Try.underlying34 Try.sizeOf2 rfl (B159.at (inR_pos k268)) rfl k268 (z1 _)) ?_
              refine AO.c rfl (s_load Try.isAgg2 rfl (row_cell (S262.oat (k := 1) rfl (B159.at (inR_pos k268))) (ints_get (lt_len rfl (inR_lt k268))))) ?_
              refine AO.p rfl (p_assign rfl) ?_
              refine AO.nil ?_
              refine AX.region ?_
              refine AO.p rfl (p_move rfl) ?_
              refine AO.p rfl (p_move rfl) ?_
              refine AO.p rfl (p_move rfl) ?_
              obtain ⟨k270, hd271⟩ := chk_some hd269
              refine AO.p rfl (p_subE rfl rfl k270) ?_
              obtain ⟨G272, i273, hii273, hHG272, S274⟩ := S262.new (AObj.row false (ints [a0 - (rd xs153 x225.toNat)]))
              refine AO.c rfl (s_buildInts (i := i273) (vs := [(0, .int .i64 (a0 - (rd xs153 x225.toNat)))]) (xs := [a0 - (rd xs153 x225.toNat)]) Try.underlying34 Try.sizeOf2 Try.zeroValue2 rfl rfl (by decide) rfl rfl hii273 hHG272) ?_
              obtain ⟨k276, hd277⟩ := chk_some hd271
              obtain ⟨p278, c279, G280, haG280, S281, Bp278⟩ := S274.app (k := 1) rfl Bo220 (ints [a0 - (rd xs153 x225.toNat)]) 1 (ints_len1 rfl)
              have S282 := S281.cellsEq (k := 1) (us' := ints (xs223 ++ [a0 - (rd xs153 x225.toNat)])) (ints_app _ _) rfl
              have BS282 : Sb p278 ((xs223 ++ [a0 - (rd xs153 x225.toNat)]).length) c279 1 := (show xs223.length + 1 = (xs223 ++ [a0 - (rd xs153 x225.toNat)]).length from len_app (a := xs223) (b := [a0 - (rd xs153 x225.toNat)]) rfl rfl) ▸ Bp278
              have S283 := S282.drop 0 rfl
              refine AO.c rfl (s_app (by_ := 8) (us := ints xs223) (vs := ints [a0 - (rd xs153 x225.toNat)]) Try.underlying34 Try.underlying34 Try.typeInfo2 Try.sizeOf2 Try.zeroValue2 rfl rfl rfl rfl rfl rfl rfl (S274.buf (k := 1) rfl Bo220 (ints_len1 rfl)) (S274.oview (k := 0) rfl (Sb.lit (n := 1) (by decide)) (ints_len1 rfl)) (ints_len1 rfl) ints_one k276 haG280 (show xs223.length + 1 = (xs223 ++ [a0 - (rd xs153 x225.toNat)]).length from len_app (a := xs223) (b := [a0 - (rd xs153 x225.toNat)]) rfl rfl)) ?_
              refine AO.p rfl (p_assign rfl) ?_
              refine AO.nil ?_
              refine AX.region ?_
              obtain ⟨k284, hd285⟩ := chk_some hd277
              refine AO.p rfl (p_addE rfl rfl k284) ?_
              refine AO.p rfl (p_move rfl) ?_
              refine AO.nil ?_
              obtain rfl := some_inj hd285
              have S287 := S283.front 1 rfl
              have S288 := S287.front 1 rfl
              exact ⟨((xs223 ++ [a0 - (rd xs153 x225.toNat)]), x225 + 1), hk261, (xs223 ++ [a0 - (rd xs153 x225.toNat)]), (x225 + 1), p278, c279, rfl, S288, BS282, Sub.cons' rfl rfl (Sub.cons' rfl rfl (Sub.cons' rfl rfl (Sub.cons' rfl rfl (Sub.cons' rfl rfl (Sub.nil _)))))⟩
            · have hd289 := bif_f c266 ho260
              refine AX.exit ?_
              obtain rfl := some_inj hd289
              have S290 := S262.front 0 rfl
              have S291 := S290.keep 1
              exact ⟨xs223, p221, c222, hk261, S291, Bo220, Sub.cons' rfl rfl (Sub.nil _)⟩
        · rintro t' G293 ⟨xs253, p251, c252, rfl, S292, Bo250, hsub294⟩
          refine ⟨_, hsub294, ?_⟩
          refine AX.seq ?_
          refine AX.region ?_
          refine AO.p rfl (p_move rfl) ?_
          refine AO.p rfl (p_assign rfl) ?_
          refine AO.p rfl (p_assign rfl) ?_
          refine AO.nil ?_
          refine AX.ret ?_
          obtain ⟨rfl, rfl⟩ := Prod.mk.inj (some_inj hd256)
          have S296 := S292.front 0 rfl
          exact ⟨.inr rfl, _, res2 rfl (rv_tmp rfl) (rv_tmp rfl), p251, c252, rfl, S296, Bo250⟩

end Go.Proofs.Ytakfkiahhfdjfaa
