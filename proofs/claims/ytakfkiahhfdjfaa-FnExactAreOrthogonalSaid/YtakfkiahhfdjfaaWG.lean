/-
  The program computes that, printed by a program. No condition.
-/
import Derived.Test.YtakfkiahhfdjfaaDG
import Derived.Test.YtakfkiahhfdjfaaWD
import Derived.Test.YtakfkiahhfdjfaaProg
import Derived.KernelRfl
namespace Go.Proofs.Ytakfkiahhfdjfaa
open Go Go.RowKit Am
set_option linter.unusedVariables false
set_option linter.unusedSimpArgs false
set_option maxRecDepth 20000
set_option maxHeartbeats 4000000 in
theorem W_spec_l03Adder (fu : Nat) (H : AHeap) (a0 : Int) (p_a1 : Option Addr) (c_a1 : Nat) (T_a1 : Tb) (a1 : List (List Int)) (t_a1 : trows T_a1 = a1) (v_a1 : Vw H p_a1 a1.length c_a1 (tcells T_a1)) (w_a1 : TVw H T_a1) (p_a2 : Option Addr) (c_a2 : Nat) (a2 : List Int) (v_a2 : Vw H p_a2 a2.length c_a2 (ints a2)) (r0 : Bool) (hd : D_spec_l03Adder fu a0 a1 a2 = some r0) : ACall Try.prog 76 [.int .i64 a0, .slice p_a1 a1.length c_a1, .slice p_a2 a2.length c_a2] H (.bool r0) H := by
  refine ACall.bodyP (N := 81) [(0, .int .i64 a0), (1, .slice p_a1 a1.length c_a1), (2, .slice p_a2 a2.length c_a2)] Try.func76 rfl rfl rfl rfl ?_
  unfold D_spec_l03Adder at hd
  have S0 : St [] H H [] := St.nil H
  refine AX.seq ?_
  refine AX.region ?_
  refine AO.p rfl (p_assign rfl) ?_
  refine AO.nil ?_
  refine AX.seq ?_
  refine DR.startS [false, false, false, false, false, false] mix (by kernel_rfl) (fun hst => ?_)
  refine DR.p rfl rfl (p_move rfl) ?_
  obtain ⟨k100, hd101⟩ := chk_some hd
  obtain ⟨G102, i103, hii103, hHG102, S104⟩ := S0.new (AObj.row false (bls (List.replicate a0.toNat false)))
  refine DR.a rfl rfl hii103 hHG102 (a_make1 (v := .bool false) (by_ := 1) Try.underlying91 Try.typeInfo4 Try.sizeOf4 Try.zeroValue4 rfl rfl rfl rfl rfl rfl k100 bls_rep) ?_
  refine DR.p rfl rfl (p_move rfl) ?_
  obtain ⟨k106, hd107⟩ := chk_some hd101
  obtain ⟨G108, i109, hii109, hHG108, S110⟩ := S104.new (AObj.row false (bls (List.replicate a0.toNat false)))
  refine DR.a rfl rfl hii109 hHG108 (a_make1 (v := .bool false) (by_ := 1) Try.underlying91 Try.typeInfo4 Try.sizeOf4 Try.zeroValue4 rfl rfl rfl rfl rfl rfl k106 bls_rep) ?_
  refine DR.p rfl rfl (p_assign rfl) ?_
  refine DR.p rfl rfl (p_assign rfl) ?_
  refine DR.nil 6 [] hst (by kernel_rfl) trivial ?_
  refine AX.seq ?_
  refine AX.region ?_
  refine AO.p rfl (p_move rfl) ?_
  obtain ⟨k112, hd113⟩ := chk_some hd107
  refine AO.p rfl (s_indexV (q := 0) Try.underlying91 Try.sizeOf4 rfl rfl rfl k112 rfl) ?_
  obtain ⟨G114, hHG114, S115⟩ := S110.set (k := 1) (i := i103) rfl (AObj.row false (bls ((List.replicate a0.toNat false).set 0 true)))
  refine AO.s (s_store Try.sizeOf4 rfl rfl rfl (S110.get (k := 1) rfl) (lt_len ((bls_length _).trans len_rep) (inR_lt k112)) ((congrArg (fun l => List.set _ _ (AObj.row false l)) (bls_set _ _ _)).trans hHG114)) ?_
  refine AO.nil ?_
  refine AX.seq ?_
  refine AX.seq ?_
  refine AX.region ?_
  refine AO.p rfl (p_assign rfl) ?_
  refine AO.nil ?_
  obtain ⟨r416, hl417, hd418⟩ := bnd_some hd113
  refine AX.cutS (fun t' H' => .inl () = r416 ∧ St [] H H' [] ∧ Am.Sub [] t') ?_ ?_
  · refine AX.block ?_
    refine AX.loopF (fun s' t' H' => ∃ (bs316 : List Bool) (bs318 : List Bool) (x319 : Int), (bs316, bs318, x319) = s' ∧ St [] H H' [[(i103, AObj.row false (bls bs316))], [(i109, AObj.row false (bls bs318))]] ∧ bs316.length = a0.toNat ∧ bs318.length = a0.toNat ∧ Am.Sub [(0, .int .i64 a0), (1, .slice p_a1 a1.length c_a1), (2, .slice p_a2 a2.length c_a2), (7, .slice (some (Addr.mk i103 0 none)) a0.toNat a0.toNat), (8, .slice (some (Addr.mk i109 0 none)) a0.toNat a0.toNat), (9, .int .i64 x319)] t') hl417 ?_ ?_
    · skip
      have S419 := S115.front 0 rfl
      have S420 := S419.front 1 rfl
      exact ⟨((List.replicate a0.toNat false).set 0 true), (List.replicate a0.toNat false), 0, rfl, S420, (len_set len_rep), len_rep, Sub.cons' rfl rfl (Sub.cons' rfl rfl (Sub.cons' rfl rfl (Sub.cons' rfl rfl (Sub.cons' rfl rfl (Sub.cons' rfl rfl (Sub.nil _))))))⟩
    · rintro n421 _ t' G425 ⟨bs316, bs318, x319, rfl, S424, lbs316, lbs318, hsub426⟩ o427 ho422 hk423
      refine AX.sub hsub426 ?_
      unfold D_spec_l03Adder_s0 at ho422
      refine AX.seq ?_
      refine AX.seq ?_
      refine AX.region ?_
      refine AO.p rfl (p_move rfl) ?_
      refine AO.p rfl (p_move rfl) ?_
      refine AO.p rfl (p_len_slice rfl Try.underlying34) ?_
      refine AO.p rfl (p_lss rfl rfl) ?_
      refine AO.nil ?_
      refine AX.cond rfl (fun c428 => ?_) (fun c428 => ?_)
      · have hd429 := bif_t c428 ho422
        refine AX.skip ?_
        refine AX.seq ?_
        refine AX.block ?_
        refine AX.seq ?_
        refine DR.startS [false, false, false, false, false, false, false, false, false, false, false, false, false, false, false, false, false, false, false, false, false, false, false, false, false, false, false, false] mix (by kernel_rfl) (fun hst => ?_)
        refine DR.p rfl rfl (p_move rfl) ?_
        refine DR.p rfl rfl (p_move rfl) ?_
        obtain ⟨k430, hd431⟩ := chk_some hd429
        obtain ⟨p432, c433, e434, f435⟩ := tget t_a1 (lt_len rfl (inR_lt k430))
        refine DR.p rfl rfl (s_indexV (q := off p_a1 + x319.toNat) Try.underlying22 Try.sizeOf34 rfl ((S424.view v_a1).p f435) rfl k430 (o1 _ _)) ?_
        refine DR.r rfl rfl (r_load rfl Try.isAgg34) (one_read ((S424.view v_a1).get _ _ f435) (TVw.at (S424.tview w_a1) e434).inn.bel) ?_
        obtain ⟨k436, hd437⟩ := chk_some hd431
        refine DR.p rfl rfl (s_indexV (q := off p432 + 0) Try.underlying34 Try.sizeOf2 rfl ((TVw.at (S424.tview w_a1) e434).p (ints_get (lt_len rfl (inR_lt k436)))) rfl k436 (o1 _ _)) ?_
        refine DR.r rfl rfl (r_load rfl Try.isAgg2) (one_read ((TVw.at (S424.tview w_a1) e434).get _ _ (ints_get (lt_len rfl (inR_lt k436)))) (.of_flat0 rfl)) ?_
        refine DR.p rfl rfl (p_move rfl) ?_
        refine DR.p rfl rfl (p_move rfl) ?_
        obtain ⟨k438, hd439⟩ := chk_some hd437
        refine DR.p rfl rfl (s_indexV (q := off p_a2 + x319.toNat) Try.underlying34 Try.sizeOf2 rfl ((S424.view v_a2).p (ints_get (lt_len rfl (inR_lt k438)))) rfl k438 (o1 _ _)) ?_
        refine DR.r rfl rfl (r_load rfl Try.isAgg2) (one_read ((S424.view v_a2).get _ _ (ints_get (lt_len rfl (inR_lt k438)))) (.of_flat0 rfl)) ?_
        obtain ⟨k440, hd441⟩ := chk_some hd439
        refine DR.p rfl rfl (p_addE rfl rfl k440) ?_
        refine DR.p rfl rfl (p_move rfl) ?_
        obtain ⟨k442, hd443⟩ := chk_some hd441
        refine DR.p rfl rfl (p_remE rfl rfl k442) ?_
        refine DR.p rfl rfl (p_move rfl) ?_
        refine DR.p rfl rfl (p_move rfl) ?_
        obtain ⟨k444, hd445⟩ := chk_some hd443
        obtain ⟨p446, c447, e448, f449⟩ := tget t_a1 (lt_len rfl (inR_lt k444))
        refine DR.p rfl rfl (s_indexV (q := off p_a1 + x319.toNat) Try.underlying22 Try.sizeOf34 rfl ((S424.view v_a1).p f449) rfl k444 (o1 _ _)) ?_
        refine DR.r rfl rfl (r_load rfl Try.isAgg34) (one_read ((S424.view v_a1).get _ _ f449) (TVw.at (S424.tview w_a1) e448).inn.bel) ?_
        obtain ⟨k450, hd451⟩ := chk_some hd445
        refine DR.p rfl rfl (s_indexV (q := off p446 + 1) Try.underlying34 Try.sizeOf2 rfl ((TVw.at (S424.tview w_a1) e448).p (ints_get (lt_len rfl (inR_lt k450)))) rfl k450 (o1 _ _)) ?_
        refine DR.r rfl rfl (r_load rfl Try.isAgg2) (one_read ((TVw.at (S424.tview w_a1) e448).get _ _ (ints_get (lt_len rfl (inR_lt k450)))) (.of_flat0 rfl)) ?_
        refine DR.p rfl rfl (p_move rfl) ?_
        refine DR.p rfl rfl (p_move rfl) ?_
        obtain ⟨k452, hd453⟩ := chk_some hd451
        refine DR.p rfl rfl (s_indexV (q := off p_a2 + x319.toNat) Try.underlying34 Try.sizeOf2 rfl ((S424.view v_a2).p (ints_get (lt_len rfl (inR_lt k452)))) rfl k452 (o1 _ _)) ?_
        refine DR.r rfl rfl (r_load rfl Try.isAgg2) (one_read ((S424.view v_a2).get _ _ (ints_get (lt_len rfl (inR_lt k452)))) (.of_flat0 rfl)) ?_
        obtain ⟨k454, hd455⟩ := chk_some hd453
        refine DR.p rfl rfl (p_addE rfl rfl k454) ?_
        refine DR.p rfl rfl (p_move rfl) ?_
        obtain ⟨k456, hd457⟩ := chk_some hd455
        refine DR.p rfl rfl (p_remE rfl rfl k456) ?_
        refine DR.p rfl rfl (p_assign rfl) ?_
        refine DR.p rfl rfl (p_assign rfl) ?_
        refine DR.nil 28 [] hst (by kernel_rfl) trivial ?_
        refine AX.seq ?_
        obtain ⟨r475, hb476, hd477⟩ := bnd_some hd457
        refine AX.cut (fun t' H' => ∃ (b474 : Bool), b474 = r475 ∧ St [] H H' [[(i103, AObj.row false (bls bs316))], [(i109, AObj.row false (bls bs318))]] ∧ Am.Sub [(0, .int .i64 a0), (1, .slice p_a1 a1.length c_a1), (2, .slice p_a2 a2.length c_a2), (7, .slice (some (Addr.mk i103 0 none)) a0.toNat a0.toNat), (8, .slice (some (Addr.mk i109 0 none)) a0.toNat a0.toNat), (9, .int .i64 x319), (10, .int .i64 ((rd (rw_ a1 x319.toNat) 0 + (rd a2 x319.toNat)).tmod a0)), (11, .int .i64 ((rd (rw_ a1 x319.toNat) 1 + (rd a2 x319.toNat)).tmod a0)), (68, .bool b474)] t') ?_ ?_
        · skip
          refine AX.region ?_
          refine AO.p rfl (p_move rfl) ?_
          refine AO.p rfl (p_move rfl) ?_
          obtain ⟨k478, hd479⟩ := chk_some hb476
          refine AO.p rfl (s_indexV (q := ((rd (rw_ a1 x319.toNat) 0 + (rd a2 x319.toNat)).tmod a0).toNat) Try.underlying91 Try.sizeOf4 rfl rfl rfl k478 (z1 _)) ?_
          refine AO.c rfl (s_load Try.isAgg4 rfl (row_cell (S424.get (k := 0) rfl) (bls_get (lt_len lbs316 (inR_lt k478))))) ?_
          refine AO.p rfl (p_move rfl) ?_
          refine AO.cases (d := 54) rfl (fun c480 => ?_) (fun c480 => ?_)
          · have hd481 := bif_t c480 hd479
            refine AO.gn rfl rfl rfl ?_
            refine AO.gn rfl rfl rfl ?_
            refine AO.gn rfl rfl rfl ?_
            refine AO.gn rfl rfl rfl ?_
            refine AO.p rfl (p_pickT rfl rfl) ?_
            refine AO.p rfl (p_move rfl) ?_
            refine AO.gn rfl rfl rfl ?_
            refine AO.gn rfl rfl rfl ?_
            refine AO.gn rfl rfl rfl ?_
            refine AO.gn rfl rfl rfl ?_
            refine AO.gn rfl rfl rfl ?_
            refine AO.gn rfl rfl rfl ?_
            refine AO.gn rfl rfl rfl ?_
            refine AO.p rfl (p_pickT rfl rfl) ?_
            refine AO.nil ?_
            have S482 := S424.front 1 rfl
            have S483 := S482.front 1 rfl
            exact ⟨true, (some_inj hd481), S483, Sub.cons' rfl rfl (Sub.cons' rfl rfl (Sub.cons' rfl rfl (Sub.cons' rfl rfl (Sub.cons' rfl rfl (Sub.cons' rfl rfl (Sub.cons' rfl rfl (Sub.cons' rfl rfl (Sub.cons' rfl rfl (Sub.nil _)))))))))⟩
          · have hd484 := bif_f c480 hd479
            refine AO.gp rfl rfl rfl (p_move rfl) ?_
            refine AO.gp rfl rfl rfl (p_move rfl) ?_
            obtain ⟨k485, hd486⟩ := chk_some hd484
            refine AO.gp rfl rfl rfl (s_indexV (q := ((rd (rw_ a1 x319.toNat) 1 + (rd a2 x319.toNat)).tmod a0).toNat) Try.underlying91 Try.sizeOf4 rfl rfl rfl k485 (z1 _)) ?_
            refine AO.gc rfl rfl rfl (s_load Try.isAgg4 rfl (row_cell (S424.get (k := 0) rfl) (bls_get (lt_len lbs316 (inR_lt k485))))) ?_
            refine AO.p rfl (p_pickF rfl rfl) ?_
            refine AO.p rfl (p_move rfl) ?_
            refine AO.cases (d := 60) rfl (fun c487 => ?_) (fun c487 => ?_)
            · have hd488 := bif_t c487 hd486
              refine AO.gn rfl rfl rfl ?_
              refine AO.gn rfl rfl rfl ?_
              refine AO.gn rfl rfl rfl ?_
              refine AO.gn rfl rfl rfl ?_
              refine AO.gn rfl rfl rfl ?_
              refine AO.gn rfl rfl rfl ?_
              refine AO.gn rfl rfl rfl ?_
              refine AO.p rfl (p_pickT rfl rfl) ?_
              refine AO.nil ?_
              have S489 := S424.front 1 rfl
              have S490 := S489.front 1 rfl
              exact ⟨true, (some_inj hd488), S490, Sub.cons' rfl rfl (Sub.cons' rfl rfl (Sub.cons' rfl rfl (Sub.cons' rfl rfl (Sub.cons' rfl rfl (Sub.cons' rfl rfl (Sub.cons' rfl rfl (Sub.cons' rfl rfl (Sub.cons' rfl rfl (Sub.nil _)))))))))⟩
            · have hd491 := bif_f c487 hd486
              refine AO.gp rfl rfl rfl (p_move rfl) ?_
              refine AO.gp rfl rfl rfl (p_move rfl) ?_
              refine AO.gp rfl rfl rfl (p_move rfl) ?_
              obtain ⟨k492, hd493⟩ := chk_some hd491
              refine AO.gp rfl rfl rfl (s_indexV (q := off p_a2 + x319.toNat) Try.underlying34 Try.sizeOf2 rfl ((S424.view v_a2).p (ints_get (lt_len rfl (inR_lt k492)))) rfl k492 (o1 _ _)) ?_
              refine AO.gc rfl rfl rfl (s_load Try.isAgg2 rfl ((S424.view v_a2).get _ _ (ints_get (lt_len rfl (inR_lt k492))))) ?_
              obtain ⟨k494, hd495⟩ := chk_some hd493
              refine AO.gp rfl rfl rfl (s_indexV (q := (rd a2 x319.toNat).toNat) Try.underlying91 Try.sizeOf4 rfl rfl rfl k494 (z1 _)) ?_
              refine AO.gc rfl rfl rfl (s_load Try.isAgg4 rfl (row_cell (S424.get (k := 1) rfl) (bls_get (lt_len lbs318 (inR_lt k494))))) ?_
              refine AO.p rfl (p_pickF rfl rfl) ?_
              refine AO.nil ?_
              have S496 := S424.front 1 rfl
              have S497 := S496.front 1 rfl
              exact ⟨(rdb bs318 ((rd a2 x319.toNat).toNat)), (some_inj hd495), S497, Sub.cons' rfl rfl (Sub.cons' rfl rfl (Sub.cons' rfl rfl (Sub.cons' rfl rfl (Sub.cons' rfl rfl (Sub.cons' rfl rfl (Sub.cons' rfl rfl (Sub.cons' rfl rfl (Sub.cons' rfl rfl (Sub.nil _)))))))))⟩
        · rintro t' G499 ⟨b474, rfl, S498, hsub500⟩
          refine AX.sub hsub500 ?_
          refine AX.cond rfl (fun c501 => ?_) (fun c501 => ?_)
          · have hd502 := bif_t c501 hd477
            refine AX.seq ?_
            refine AX.region ?_
            refine AO.p rfl (p_assign rfl) ?_
            refine AO.nil ?_
            refine AX.ret ?_
            obtain rfl := some_inj hd502
            have z503 : _ = r416 := hk423
            subst z503
            obtain rfl := some_inj hd418
            exact ⟨.inr rfl, _, res1 rfl (rv_tmp rfl), rfl, (flatB_ok rfl), S498.hold⟩
          · have hd504 := bif_f c501 hd477
            refine AX.skip ?_
            refine AX.seq ?_
            refine AX.region ?_
            refine AO.p rfl (p_move rfl) ?_
            refine AO.p rfl (p_move rfl) ?_
            obtain ⟨k505, hd506⟩ := chk_some hd504
            refine AO.p rfl (s_indexV (q := ((rd (rw_ a1 x319.toNat) 0 + (rd a2 x319.toNat)).tmod a0).toNat) Try.underlying91 Try.sizeOf4 rfl rfl rfl k505 (z1 _)) ?_
            obtain ⟨G507, hHG507, S508⟩ := S498.set (k := 0) (i := i103) rfl (AObj.row false (bls (bs316.set (((rd (rw_ a1 x319.toNat) 0 + (rd a2 x319.toNat)).tmod a0).toNat) true)))
            refine AO.s (s_store Try.sizeOf4 rfl rfl rfl (S498.get (k := 0) rfl) (lt_len ((bls_length _).trans lbs316) (inR_lt k505)) ((congrArg (fun l => List.set _ _ (AObj.row false l)) (bls_set _ _ _)).trans hHG507)) ?_
            refine AO.nil ?_
            refine AX.seq ?_
            refine AX.region ?_
            refine AO.p rfl (p_move rfl) ?_
            refine AO.p rfl (p_move rfl) ?_
            obtain ⟨k509, hd510⟩ := chk_some hd506
            refine AO.p rfl (s_indexV (q := ((rd (rw_ a1 x319.toNat) 1 + (rd a2 x319.toNat)).tmod a0).toNat) Try.underlying91 Try.sizeOf4 rfl rfl rfl k509 (z1 _)) ?_
            obtain ⟨G511, hHG511, S512⟩ := S508.set (k := 0) (i := i103) rfl (AObj.row false (bls ((bs316.set (((rd (rw_ a1 x319.toNat) 0 + (rd a2 x319.toNat)).tmod a0).toNat) true).set (((rd (rw_ a1 x319.toNat) 1 + (rd a2 x319.toNat)).tmod a0).toNat) true)))
            refine AO.s (s_store Try.sizeOf4 rfl rfl rfl (S508.get (k := 0) rfl) (lt_len ((bls_length _).trans (len_set lbs316)) (inR_lt k509)) ((congrArg (fun l => List.set _ _ (AObj.row false l)) (bls_set _ _ _)).trans hHG511)) ?_
            refine AO.nil ?_
            refine AX.region ?_
            refine AO.p rfl (p_move rfl) ?_
            refine AO.p rfl (p_move rfl) ?_
            refine AO.p rfl (p_move rfl) ?_
            obtain ⟨k513, hd514⟩ := chk_some hd510
            refine AO.p rfl (s_indexV (q := off p_a2 + x319.toNat) Try.underlying34 Try.sizeOf2 rfl ((S512.view v_a2).p (ints_get (lt_len rfl (inR_lt k513)))) rfl k513 (o1 _ _)) ?_
            refine AO.c rfl (s_load Try.isAgg2 rfl ((S512.view v_a2).get _ _ (ints_get (lt_len rfl (inR_lt k513))))) ?_
            obtain ⟨k515, hd516⟩ := chk_some hd514
            refine AO.p rfl (s_indexV (q := (rd a2 x319.toNat).toNat) Try.underlying91 Try.sizeOf4 rfl rfl rfl k515 (z1 _)) ?_
            obtain ⟨G517, hHG517, S518⟩ := S512.set (k := 1) (i := i109) rfl (AObj.row false (bls (bs318.set ((rd a2 x319.toNat).toNat) true)))
            refine AO.s (s_store Try.sizeOf4 rfl rfl rfl (S512.get (k := 1) rfl) (lt_len ((bls_length _).trans lbs318) (inR_lt k515)) ((congrArg (fun l => List.set _ _ (AObj.row false l)) (bls_set _ _ _)).trans hHG517)) ?_
            refine AO.nil ?_
            refine AX.region ?_
            refine AO.p rfl (p_move rfl) ?_
            obtain ⟨k519, hd520⟩ := chk_some hd516
            refine AO.p rfl (p_addE rfl rfl k519) ?_
            refine AO.p rfl (p_assign rfl) ?_
            refine AO.nil ?_
            obtain rfl := some_inj hd520
            have S522 := S518.front 1 rfl
            have S523 := S522.front 1 rfl
            exact ⟨(((bs316.set (((rd (rw_ a1 x319.toNat) 0 + (rd a2 x319.toNat)).tmod a0).toNat) true).set (((rd (rw_ a1 x319.toNat) 1 + (rd a2 x319.toNat)).tmod a0).toNat) true), (bs318.set ((rd a2 x319.toNat).toNat) true), x319 + 1), hk423, ((bs316.set (((rd (rw_ a1 x319.toNat) 0 + (rd a2 x319.toNat)).tmod a0).toNat) true).set (((rd (rw_ a1 x319.toNat) 1 + (rd a2 x319.toNat)).tmod a0).toNat) true), (bs318.set ((rd a2 x319.toNat).toNat) true), (x319 + 1), rfl, S523, (len_set (len_set lbs316)), (len_set lbs318), Sub.cons' rfl rfl (Sub.cons' rfl rfl (Sub.cons' rfl rfl (Sub.cons' rfl rfl (Sub.cons' rfl rfl (Sub.cons' rfl rfl (Sub.nil _))))))⟩
      · have hd524 := bif_f c428 ho422
        refine AX.exit ?_
        obtain rfl := some_inj hd524
        have S525 := S424.keep 0
        exact ⟨hk423, S525, Sub.nil _⟩
  · rintro t' G527 ⟨rfl, S526, hsub528⟩
    refine ⟨_, hsub528, ?_⟩
    refine AX.seq ?_
    refine AX.region ?_
    refine AO.p rfl (p_assign rfl) ?_
    refine AO.nil ?_
    refine AX.ret ?_
    obtain rfl := some_inj hd418
    exact ⟨.inr rfl, _, res1 rfl (rv_tmp rfl), rfl, (flatB_ok rfl), S526.hold⟩

set_option maxHeartbeats 4000000 in
theorem W_spec_IsAdder (fu : Nat) (H : AHeap) (a0 : Int) (p_a1 : Option Addr) (c_a1 : Nat) (T_a1 : Tb) (a1 : List (List Int)) (t_a1 : trows T_a1 = a1) (v_a1 : Vw H p_a1 a1.length c_a1 (tcells T_a1)) (w_a1 : TVw H T_a1) (p_a2 : Option Addr) (c_a2 : Nat) (a2 : List Int) (v_a2 : Vw H p_a2 a2.length c_a2 (ints a2)) (r0 : Bool) (r1 : Int) (hd : D_spec_IsAdder fu a0 a1 a2 = some (r0, r1)) : ACall Try.prog 30 [.int .i64 a0, .slice p_a1 a1.length c_a1, .slice p_a2 a2.length c_a2] H (.tuple #[.bool r0, .int .i64 r1]) H := by
  refine ACall.bodyP (N := 41) [(0, .int .i64 a0), (1, .slice p_a1 a1.length c_a1), (2, .slice p_a2 a2.length c_a2)] Try.func30 rfl rfl rfl rfl ?_
  unfold D_spec_IsAdder at hd
  have S0 : St [] H H [] := St.nil H
  refine AX.seq ?_
  refine AX.region ?_
  refine AO.p rfl (p_assign rfl) ?_
  refine AO.p rfl (p_assign rfl) ?_
  refine AO.nil ?_
  refine AX.seq ?_
  refine AX.region ?_
  refine AO.p rfl (p_move rfl) ?_
  refine AO.p rfl (p_move rfl) ?_
  obtain ⟨x100, h101, hd102⟩ := bnd_some hd
  refine AO.c rfl (o_call (vs := [.int .i64 a0, .slice p_a1 a1.length c_a1]) rfl Try.call52 (W_spec_l03Code fu H a0 p_a1 c_a1 T_a1 a1 t_a1 (S0.view v_a1) (S0.tview w_a1) x100 h101)) ?_
  refine AO.p rfl (p_assign rfl) ?_
  refine AO.nil ?_
  refine AX.seq ?_
  refine AX.seq ?_
  refine AX.region ?_
  refine AO.p rfl (p_move rfl) ?_
  refine AO.p rfl (p_neq rfl rfl) ?_
  refine AO.nil ?_
  obtain ⟨r206, hb207, hd208⟩ := bnd_some hd102
  refine AX.cutS (fun t' H' => .inl () = r206 ∧ St [] H H' [] ∧ Am.Sub [(0, .int .i64 a0), (1, .slice p_a1 a1.length c_a1), (2, .slice p_a2 a2.length c_a2), (8, .int .i64 x100)] t') ?_ ?_
  · skip
    refine AX.cond rfl (fun c209 => ?_) (fun c209 => ?_)
    · have hd210 := bif_t c209 hb207
      refine AX.seq ?_
      refine AX.seq ?_
      refine AX.region ?_
      refine AO.p rfl (p_move rfl) ?_
      refine AO.p rfl (p_len_slice rfl Try.underlying34) ?_
      refine AO.p rfl (p_move rfl) ?_
      refine AO.p rfl (p_len_slice rfl Try.underlying22) ?_
      refine AO.p rfl (p_neq rfl rfl) ?_
      refine AO.nil ?_
      refine AX.cond rfl (fun c211 => ?_) (fun c211 => ?_)
      · have hd212 := bif_t c211 hd210
        refine AX.seq ?_
        refine AX.region ?_
        refine AO.p rfl (p_assign rfl) ?_
        refine AO.p rfl (p_assign rfl) ?_
        refine AO.nil ?_
        refine AX.ret ?_
        have z213 : _ = r206 := some_inj hd212
        subst z213
        obtain ⟨rfl, rfl⟩ := Prod.mk.inj (some_inj hd208)
        exact ⟨.inr rfl, _, res2 rfl (rv_tmp rfl) (rv_tmp rfl), rfl, (flat_t2 (flatB_ok rfl) (flatB_ok rfl)), S0.hold⟩
      · have hd215 := bif_f c211 hd210
        refine AX.skip ?_
        refine AX.seq ?_
        refine AX.region ?_
        refine AO.p rfl (p_assign rfl) ?_
        refine AO.nil ?_
        obtain ⟨r281, hl282, hd283⟩ := bnd_some hd215
        refine AX.cutS (fun t' H' => .inl () = r281 ∧ St [] H H' [] ∧ Am.Sub [(0, .int .i64 a0), (1, .slice p_a1 a1.length c_a1), (2, .slice p_a2 a2.length c_a2), (8, .int .i64 x100)] t') ?_ ?_
        · refine AX.block ?_
          refine AX.loopF (fun s' t' H' => ∃ (x259 : Int), x259 = s' ∧ St [] H H' [] ∧ Am.Sub [(0, .int .i64 a0), (1, .slice p_a1 a1.length c_a1), (2, .slice p_a2 a2.length c_a2), (8, .int .i64 x100), (9, .int .i64 x259)] t') hl282 ?_ ?_
          · skip
            exact ⟨0, rfl, S0, Sub.cons' rfl rfl (Sub.cons' rfl rfl (Sub.cons' rfl rfl (Sub.cons' rfl rfl (Sub.cons' rfl rfl (Sub.nil _)))))⟩
          · rintro n284 _ t' G288 ⟨x259, rfl, S287, hsub289⟩ o290 ho285 hk286
            refine AX.sub hsub289 ?_
            unfold D_spec_IsAdder_s0 at ho285
            refine AX.seq ?_
            refine AX.seq ?_
            refine AX.region ?_
            refine AO.p rfl (p_move rfl) ?_
            refine AO.p rfl (p_move rfl) ?_
            refine AO.p rfl (p_len_slice rfl Try.underlying34) ?_
            refine AO.p rfl (p_lss rfl rfl) ?_
            refine AO.nil ?_
            refine AX.cond rfl (fun c291 => ?_) (fun c291 => ?_)
            · have hd292 := bif_t c291 ho285
              refine AX.skip ?_
              refine AX.seq ?_
              refine AX.block ?_
              refine AX.seq ?_
              refine AX.region ?_
              refine AO.p rfl (p_move rfl) ?_
              refine AO.p rfl (p_move rfl) ?_
              obtain ⟨k293, hd294⟩ := chk_some hd292
              refine AO.p rfl (s_indexV (q := off p_a2 + x259.toNat) Try.underlying34 Try.sizeOf2 rfl ((S287.view v_a2).p (ints_get (lt_len rfl (inR_lt k293)))) rfl k293 (o1 _ _)) ?_
              refine AO.c rfl (s_load Try.isAgg2 rfl ((S287.view v_a2).get _ _ (ints_get (lt_len rfl (inR_lt k293))))) ?_
              refine AO.p rfl (p_move rfl) ?_
              obtain ⟨k295, hd296⟩ := chk_some hd294
              refine AO.p rfl (p_subE rfl rfl k295) ?_
              obtain ⟨b297, h298, hd299⟩ := bnd_some hd296
              refine AO.c rfl (o_call (vs := [.int .i64 (rd a2 x259.toNat), .int .i64 1, .int .i64 (a0 - 1)]) rfl Try.call75 (W_spec_l01In fu G288 (rd a2 x259.toNat) 1 (a0 - 1) b297 h298)) ?_
              refine AO.p rfl (p_not rfl) ?_
              refine AO.nil ?_
              refine AX.cond rfl (fun c301 => ?_) (fun c301 => ?_)
              · have hd302 := bif_t c301 hd299
                refine AX.seq ?_
                refine AX.region ?_
                refine AO.p rfl (p_assign rfl) ?_
                refine AO.p rfl (p_assign rfl) ?_
                refine AO.nil ?_
                refine AX.ret ?_
                obtain rfl := some_inj hd302
                have z303 : _ = r281 := hk286
                subst z303
                have z304 : _ = r206 := some_inj hd283
                subst z304
                obtain ⟨rfl, rfl⟩ := Prod.mk.inj (some_inj hd208)
                exact ⟨.inr rfl, _, res2 rfl (rv_tmp rfl) (rv_tmp rfl), rfl, (flat_t2 (flatB_ok rfl) (flatB_ok rfl)), S287.hold⟩
              · have hd306 := bif_f c301 hd299
                refine AX.skip ?_
                refine AX.region ?_
                refine AO.p rfl (p_move rfl) ?_
                obtain ⟨k307, hd308⟩ := chk_some hd306
                refine AO.p rfl (p_addE rfl rfl k307) ?_
                refine AO.p rfl (p_assign rfl) ?_
                refine AO.nil ?_
                obtain rfl := some_inj hd308
                exact ⟨x259 + 1, hk286, (x259 + 1), rfl, S287, Sub.cons' rfl rfl (Sub.cons' rfl rfl (Sub.cons' rfl rfl (Sub.cons' rfl rfl (Sub.cons' rfl rfl (Sub.nil _)))))⟩
            · have hd310 := bif_f c291 ho285
              refine AX.exit ?_
              obtain rfl := some_inj hd310
              exact ⟨hk286, S287, Sub.cons' rfl rfl (Sub.cons' rfl rfl (Sub.cons' rfl rfl (Sub.cons' rfl rfl (Sub.nil _))))⟩
        · rintro t' G312 ⟨rfl, S311, hsub313⟩
          refine ⟨_, hsub313, ?_⟩
          exact ⟨(some_inj hd283), S311, Sub.cons' rfl rfl (Sub.cons' rfl rfl (Sub.cons' rfl rfl (Sub.cons' rfl rfl (Sub.nil _))))⟩
    · have hd315 := bif_f c209 hb207
      refine AX.skip ?_
      exact ⟨(some_inj hd315), S0, Sub.cons' rfl rfl (Sub.cons' rfl rfl (Sub.cons' rfl rfl (Sub.cons' rfl rfl (Sub.nil _))))⟩
  · rintro t' G317 ⟨rfl, S316, hsub318⟩
    refine ⟨_, hsub318, ?_⟩
    refine AX.seq ?_
    refine AX.seq ?_
    refine AX.region ?_
    refine AO.p rfl (p_move rfl) ?_
    refine AO.p rfl (p_neq rfl rfl) ?_
    refine AO.nil ?_
    refine AX.cond rfl (fun c319 => ?_) (fun c319 => ?_)
    · have hd320 := bif_t c319 hd208
      refine AX.seq ?_
      refine AX.region ?_
      refine AO.p rfl (p_move rfl) ?_
      refine AO.p rfl (p_assign rfl) ?_
      refine AO.p rfl (p_assign rfl) ?_
      refine AO.nil ?_
      refine AX.ret ?_
      obtain ⟨rfl, rfl⟩ := Prod.mk.inj (some_inj hd320)
      exact ⟨.inr rfl, _, res2 rfl (rv_tmp rfl) (rv_tmp rfl), rfl, (flat_t2 (flatB_ok rfl) (flatB_ok rfl)), S316.hold⟩
    · have hd322 := bif_f c319 hd208
      refine AX.skip ?_
      refine AX.seq ?_
      refine AX.region ?_
      refine AO.p rfl (p_move rfl) ?_
      refine AO.p rfl (p_move rfl) ?_
      refine AO.p rfl (p_move rfl) ?_
      obtain ⟨b323, h324, hd325⟩ := bnd_some hd322
      refine AO.c rfl (o_call (vs := [.int .i64 a0, .slice p_a1 a1.length c_a1, .slice p_a2 a2.length c_a2]) rfl Try.call76 (W_spec_l03Adder fu G317 a0 p_a1 c_a1 T_a1 a1 t_a1 (S316.view v_a1) (S316.tview w_a1) p_a2 c_a2 a2 (S316.view v_a2) b323 h324)) ?_
      refine AO.p rfl (p_assign rfl) ?_
      refine AO.p rfl (p_assign rfl) ?_
      refine AO.nil ?_
      refine AX.ret ?_
      obtain ⟨rfl, rfl⟩ := Prod.mk.inj (some_inj hd325)
      exact ⟨.inr rfl, _, res2 rfl (rv_tmp rfl) (rv_tmp rfl), rfl, (flat_t2 (flatB_ok rfl) (flatB_ok rfl)), S316.hold⟩

set_option maxHeartbeats 4000000 in
theorem W_impl_IsAdder_1_1 (fu : Nat) (H : AHeap) (a0 : Int) (i_b0 : Nat) (ro_b0 : Bool) (b0_0 : Int) (o_b0 : hget H i_b0 = .row ro_b0 ([.int .i64 b0_0])) (r0 : Bool) (hd : D_impl_IsAdder_1_1 fu a0 b0_0 = some r0) : ACall Try.prog 79 [.int .i64 a0, .pointer (some ⟨i_b0, 0, none⟩)] H (.bool r0) H := by
  refine ACall.bodyP (N := 9) [(0, .int .i64 a0), (1, .pointer (some ⟨i_b0, 0, none⟩))] Try.func79 rfl rfl rfl rfl ?_
  unfold D_impl_IsAdder_1_1 at hd
  have S0 : St [] H H [] := St.nil H
  refine AX.seq ?_
  refine AX.region ?_
  refine AO.p rfl (p_assign rfl) ?_
  refine AO.nil ?_
  refine AX.seq ?_
  refine AX.region ?_
  refine AO.p rfl (p_move rfl) ?_
  refine AO.c rfl (s_load Try.isAgg2 rfl (row_cell (S0.old o_b0 (by simp)) rfl)) ?_
  obtain ⟨k100, hd101⟩ := chk_some hd
  refine AO.p rfl (p_subE rfl rfl k100) ?_
  obtain ⟨b102, h103, hd104⟩ := bnd_some hd101
  refine AO.c rfl (o_call (vs := [.int .i64 a0, .int .i64 1, .int .i64 (b0_0 - 1)]) rfl Try.call80 (W_impl_between fu H a0 1 (b0_0 - 1) b102 h103)) ?_
  refine AO.p rfl (p_not rfl) ?_
  refine AO.p rfl (p_assign rfl) ?_
  refine AO.nil ?_
  refine AX.ret ?_
  obtain rfl := some_inj hd104
  exact ⟨.inr rfl, _, res1 rfl (rv_tmp rfl), rfl, (flatB_ok rfl), S0.hold⟩

set_option maxHeartbeats 4000000 in
theorem W_impl_IsAdder_1 (fu : Nat) (H : AHeap) (i_b0 : Nat) (ro_b0 : Bool) (p_b0_0 : Option Addr) (c_b0_0 : Nat) (b0_0 : List Int) (v_b0_0 : Vw H p_b0_0 b0_0.length c_b0_0 (ints b0_0)) (o_b0 : hget H i_b0 = .row ro_b0 ([.slice p_b0_0 b0_0.length c_b0_0])) (i_b1 : Nat) (ro_b1 : Bool) (p_b1_0 : Option Addr) (c_b1_0 : Nat) (T_b1_0 : Tb) (b1_0 : List (List Int)) (t_b1_0 : trows T_b1_0 = b1_0) (v_b1_0 : Vw H p_b1_0 b1_0.length c_b1_0 (tcells T_b1_0)) (w_b1_0 : TVw H T_b1_0) (o_b1 : hget H i_b1 = .row ro_b1 ([.slice p_b1_0 b1_0.length c_b1_0])) (i_b2 : Nat) (ro_b2 : Bool) (b2_0 : Int) (o_b2 : hget H i_b2 = .row ro_b2 ([.int .i64 b2_0])) (r0 : Bool) (hd : D_impl_IsAdder_1 fu b0_0 b1_0 b2_0 = some r0) : ACall Try.prog 77 [.pointer (some ⟨i_b0, 0, none⟩), .pointer (some ⟨i_b1, 0, none⟩), .pointer (some ⟨i_b2, 0, none⟩)] H (.bool r0) H := by
  refine ACall.bodyP (N := 15) [(0, .pointer (some ⟨i_b0, 0, none⟩)), (1, .pointer (some ⟨i_b1, 0, none⟩)), (2, .pointer (some ⟨i_b2, 0, none⟩))] Try.func77 rfl rfl rfl rfl ?_
  unfold D_impl_IsAdder_1 at hd
  have S0 : St [] H H [] := St.nil H
  refine AX.seq ?_
  refine AX.region ?_
  refine AO.p rfl (p_assign rfl) ?_
  refine AO.nil ?_
  obtain ⟨r108, hb109, hd110⟩ := bnd_some hd
  refine AX.cut (fun t' H' => ∃ (b107 : Bool), b107 = r108 ∧ St [] H H' [] ∧ Am.Sub [(3, .bool b107)] t') ?_ ?_
  · skip
    refine AX.region ?_
    refine AO.c rfl (s_load Try.isAgg34 rfl (row_cell (S0.old o_b0 (by simp)) rfl)) ?_
    refine AO.p rfl (p_len_slice rfl Try.underlying34) ?_
    refine AO.c rfl (s_load Try.isAgg22 rfl (row_cell (S0.old o_b1 (by simp)) rfl)) ?_
    refine AO.p rfl (p_len_slice rfl Try.underlying22) ?_
    refine AO.p rfl (p_eql rfl rfl) ?_
    refine AO.p rfl (p_move rfl) ?_
    refine AO.cases (d := 9) rfl (fun c111 => ?_) (fun c111 => ?_)
    · have hd112 := bif_t c111 hb109
      refine AO.gc rfl rfl rfl (s_load Try.isAgg34 rfl (row_cell (S0.old o_b0 (by simp)) rfl)) ?_
      refine AO.gp rfl rfl rfl (p_makeFunc (fs := []) (cs := [.pointer (some ⟨i_b2, 0, none⟩)]) rfl rfl) ?_
      obtain ⟨b113, h114, hd115⟩ := bnd_some hd112
      refine AO.gc rfl rfl rfl (o_call (vs := [.slice p_b0_0 b0_0.length c_b0_0, .func (.func 79) #[] #[.pointer (some ⟨i_b2, 0, none⟩)]]) rfl Try.call78 (W_slices_ContainsFunc_Sint64_int64 fu H p_b0_0 c_b0_0 b0_0 (S0.view v_b0_0) 79 #[] #[.pointer (some ⟨i_b2, 0, none⟩)] (fun x0' => D_impl_IsAdder_1_1 fu x0' b2_0) Try.call79 (fun G' hG x0' b' hb' => W_impl_IsAdder_1_1 fu G' x0' i_b2 _ b2_0 (hG.get (S0.old o_b2 (by simp))) b' hb') b113 h114)) ?_
      refine AO.gp rfl rfl rfl (p_not rfl) ?_
      refine AO.p rfl (p_pickT rfl rfl) ?_
      refine AO.p rfl (p_assign rfl) ?_
      refine AO.nil ?_
      exact ⟨(!b113), (some_inj hd115), S0, Sub.cons' rfl rfl (Sub.nil _)⟩
    · have hd117 := bif_f c111 hb109
      refine AO.gn rfl rfl rfl ?_
      refine AO.gn rfl rfl rfl ?_
      refine AO.gn rfl rfl rfl ?_
      refine AO.gn rfl rfl rfl ?_
      refine AO.p rfl (p_pickF rfl rfl) ?_
      refine AO.p rfl (p_assign rfl) ?_
      refine AO.nil ?_
      exact ⟨false, (some_inj hd117), S0, Sub.cons' rfl rfl (Sub.nil _)⟩
  · rintro t' G119 ⟨b107, rfl, S118, hsub120⟩
    refine AX.sub hsub120 ?_
    refine AX.ret ?_
    obtain rfl := some_inj hd110
    exact ⟨.inr rfl, _, res1 rfl (rv_tmp rfl), rfl, (flatB_ok rfl), S118.hold⟩

set_option maxHeartbeats 4000000 in
theorem W_impl_isAdder (fu : Nat) (H : AHeap) (a0 : Int) (p_a1 : Option Addr) (c_a1 : Nat) (T_a1 : Tb) (a1 : List (List Int)) (t_a1 : trows T_a1 = a1) (v_a1 : Vw H p_a1 a1.length c_a1 (tcells T_a1)) (w_a1 : TVw H T_a1) (p_a2 : Option Addr) (c_a2 : Nat) (a2 : List Int) (v_a2 : Vw H p_a2 a2.length c_a2 (ints a2)) (r0 : Bool) (hd : D_impl_isAdder fu a0 a1 a2 = some r0) : ACall Try.prog 81 [.int .i64 a0, .slice p_a1 a1.length c_a1, .slice p_a2 a2.length c_a2] H (.bool r0) H := by
  refine ACall.bodyP (N := 48) [(0, .int .i64 a0), (1, .slice p_a1 a1.length c_a1), (2, .slice p_a2 a2.length c_a2)] Try.func81 rfl rfl rfl rfl ?_
  unfold D_impl_isAdder at hd
  have S0 : St [] H H [] := St.nil H
  refine AX.seq ?_
  refine AX.region ?_
  refine AO.p rfl (p_assign rfl) ?_
  refine AO.nil ?_
  refine AX.seq ?_
  refine AX.region ?_
  obtain ⟨G100, i101, hii101, hHG100, S102⟩ := S0.new (AObj.row false (ints []))
  refine AO.c rfl (s_build0 (i := i101) Try.underlying34 Try.sizeOf2 hii101 hHG100) ?_
  refine AO.p rfl (p_assign rfl) ?_
  refine AO.nil ?_
  refine AX.seq ?_
  refine AX.seq ?_
  refine AX.region ?_
  refine AO.p rfl (p_move rfl) ?_
  refine AO.p rfl (p_len_slice rfl Try.underlying34) ?_
  refine AO.p rfl (p_move rfl) ?_
  refine AO.nil ?_
  obtain ⟨r257, hl258, hd259⟩ := bnd_some hd
  refine AX.cutS (fun t' H' => ∃ (xs256 : List Int) (p254 : Option Addr) (c255 : Nat), xs256 = r257 ∧ St [] H H' [oseg p254 (ints xs256)] ∧ Sb p254 (xs256.length) c255 1 ∧ Am.Sub [(2, .slice p_a2 a2.length c_a2), (7, .slice p254 xs256.length c255)] t') ?_ ?_
  · refine AX.block ?_
    refine AX.loopF (fun s' t' H' => ∃ (xs205 : List Int) (x206 : Int) (p203 : Option Addr) (c204 : Nat), (xs205, x206) = s' ∧ St [] H H' [oseg p203 (ints xs205)] ∧ Sb p203 (xs205.length) c204 1 ∧ Am.Sub [(0, .int .i64 a0), (1, .slice p_a1 a1.length c_a1), (2, .slice p_a2 a2.length c_a2), (7, .slice p203 xs205.length c204), (11, .slice p_a2 a2.length c_a2), (12, .int .i64 ((a2.length : Nat) : Int)), (13, .int .i64 x206)] t') hl258 ?_ ?_
    · skip
      have S260 := S102.front 0 rfl
      exact ⟨[], 0, (some (Addr.mk i101 0 none)), 0, rfl, S260, (Sb.lit (n := 0) (by decide)), Sub.cons' rfl rfl (Sub.cons' rfl rfl (Sub.cons' rfl rfl (Sub.cons' rfl rfl (Sub.cons' rfl rfl (Sub.cons' rfl rfl (Sub.cons' rfl rfl (Sub.nil _)))))))⟩
    · rintro n261 _ t' G265 ⟨xs205, x206, p203, c204, rfl, S264, Bo202, hsub266⟩ o267 ho262 hk263
      refine AX.sub hsub266 ?_
      unfold D_impl_isAdder_s0 at ho262
      refine AX.seq ?_
      refine AX.region ?_
      refine AO.p rfl (p_lss rfl rfl) ?_
      refine AO.nil ?_
      refine AX.seq ?_
      refine AX.cond rfl (fun c268 => ?_) (fun c268 => ?_)
      · have hd269 := bif_t c268 ho262
        refine AX.skip ?_
        refine AX.seq ?_
        refine AX.block ?_
        refine AX.seq ?_
        refine AX.region ?_
        refine AO.p rfl (p_move rfl) ?_
        obtain ⟨k270, hd271⟩ := chk_some hd269
        refine AO.p rfl (s_indexV (q := off p_a2 + x206.toNat) Try.underlying34 Try.sizeOf2 rfl ((S264.view v_a2).p (ints_get (lt_len rfl (inR_lt k270)))) rfl k270 (o1 _ _)) ?_
        refine AO.c rfl (s_load Try.isAgg2 rfl ((S264.view v_a2).get _ _ (ints_get (lt_len rfl (inR_lt k270))))) ?_
        refine AO.p rfl (p_assign rfl) ?_
        refine AO.p rfl (p_assign rfl) ?_
        refine AO.nil ?_
        refine DR.startS [false, false, false, false, false, false, false, false, false, false, false, false, false, false, false, false, false, false, false, false, false, false, true, false] mix (by kernel_rfl) (fun hst => ?_)
        refine DR.p rfl rfl (p_move rfl) ?_
        refine DR.p rfl rfl (p_move rfl) ?_
        refine DR.p rfl rfl (p_move rfl) ?_
        obtain ⟨k272, hd273⟩ := chk_some hd271
        obtain ⟨p274, c275, e276, f277⟩ := tget t_a1 (lt_len rfl (inR_lt k272))
        refine DR.p rfl rfl (s_indexV (q := off p_a1 + x206.toNat) Try.underlying22 Try.sizeOf34 rfl ((S264.view v_a1).p f277) rfl k272 (o1 _ _)) ?_
        refine DR.r rfl rfl (r_load rfl Try.isAgg34) (one_read ((S264.view v_a1).get _ _ f277) (TVw.at (S264.tview w_a1) e276).inn.bel) ?_
        obtain ⟨k278, hd279⟩ := chk_some hd273
        refine DR.p rfl rfl (s_indexV (q := off p274 + 0) Try.underlying34 Try.sizeOf2 rfl ((TVw.at (S264.tview w_a1) e276).p (ints_get (lt_len rfl (inR_lt k278)))) rfl k278 (o1 _ _)) ?_
        refine DR.r rfl rfl (r_load rfl Try.isAgg2) (one_read ((TVw.at (S264.tview w_a1) e276).get _ _ (ints_get (lt_len rfl (inR_lt k278)))) (.of_flat0 rfl)) ?_
        refine DR.p rfl rfl (p_move rfl) ?_
        obtain ⟨k280, hd281⟩ := chk_some hd279
        refine DR.p rfl rfl (p_addE rfl rfl k280) ?_
        refine DR.p rfl rfl (p_move rfl) ?_
        obtain ⟨k282, hd283⟩ := chk_some hd281
        refine DR.p rfl rfl (p_remE rfl rfl k282) ?_
        refine DR.p rfl rfl (p_move rfl) ?_
        refine DR.p rfl rfl (p_move rfl) ?_
        obtain ⟨k284, hd285⟩ := chk_some hd283
        obtain ⟨p286, c287, e288, f289⟩ := tget t_a1 (lt_len rfl (inR_lt k284))
        refine DR.p rfl rfl (s_indexV (q := off p_a1 + x206.toNat) Try.underlying22 Try.sizeOf34 rfl ((S264.view v_a1).p f289) rfl k284 (o1 _ _)) ?_
        refine DR.r rfl rfl (r_load rfl Try.isAgg34) (one_read ((S264.view v_a1).get _ _ f289) (TVw.at (S264.tview w_a1) e288).inn.bel) ?_
        obtain ⟨k290, hd291⟩ := chk_some hd285
        refine DR.p rfl rfl (s_indexV (q := off p286 + 1) Try.underlying34 Try.sizeOf2 rfl ((TVw.at (S264.tview w_a1) e288).p (ints_get (lt_len rfl (inR_lt k290)))) rfl k290 (o1 _ _)) ?_
        refine DR.r rfl rfl (r_load rfl Try.isAgg2) (one_read ((TVw.at (S264.tview w_a1) e288).get _ _ (ints_get (lt_len rfl (inR_lt k290)))) (.of_flat0 rfl)) ?_
        refine DR.p rfl rfl (p_move rfl) ?_
        obtain ⟨k292, hd293⟩ := chk_some hd291
        refine DR.p rfl rfl (p_addE rfl rfl k292) ?_
        refine DR.p rfl rfl (p_move rfl) ?_
        obtain ⟨k294, hd295⟩ := chk_some hd293
        refine DR.p rfl rfl (p_remE rfl rfl k294) ?_
        obtain ⟨G296, i297, hii297, hHG296, S298⟩ := S264.new (AObj.row false (ints [(rd (rw_ a1 x206.toNat) 0 + (rd a2 x206.toNat)).tmod a0, (rd (rw_ a1 x206.toNat) 1 + (rd a2 x206.toNat)).tmod a0]))
        refine DR.a rfl rfl hii297 hHG296 (a_buildInts (vs := [(0, .int .i64 ((rd (rw_ a1 x206.toNat) 0 + (rd a2 x206.toNat)).tmod a0)), (1, .int .i64 ((rd (rw_ a1 x206.toNat) 1 + (rd a2 x206.toNat)).tmod a0))]) (xs := [(rd (rw_ a1 x206.toNat) 0 + (rd a2 x206.toNat)).tmod a0, (rd (rw_ a1 x206.toNat) 1 + (rd a2 x206.toNat)).tmod a0]) Try.underlying34 Try.sizeOf2 Try.zeroValue2 rfl rfl (by decide) rfl rfl) ?_
        obtain ⟨k300, hd301⟩ := chk_some hd295
        obtain ⟨p302, c303, G304, haG304, S305, Bp302⟩ := S298.app (k := 1) rfl Bo202 (ints [(rd (rw_ a1 x206.toNat) 0 + (rd a2 x206.toNat)).tmod a0, (rd (rw_ a1 x206.toNat) 1 + (rd a2 x206.toNat)).tmod a0]) 2 (ints_len1 rfl)
        have S306 := S305.cellsEq (k := 1) (us' := ints (xs205 ++ [(rd (rw_ a1 x206.toNat) 0 + (rd a2 x206.toNat)).tmod a0, (rd (rw_ a1 x206.toNat) 1 + (rd a2 x206.toNat)).tmod a0])) (ints_app _ _) rfl
        have BS306 : Sb p302 ((xs205 ++ [(rd (rw_ a1 x206.toNat) 0 + (rd a2 x206.toNat)).tmod a0, (rd (rw_ a1 x206.toNat) 1 + (rd a2 x206.toNat)).tmod a0]).length) c303 1 := (show xs205.length + 2 = (xs205 ++ [(rd (rw_ a1 x206.toNat) 0 + (rd a2 x206.toNat)).tmod a0, (rd (rw_ a1 x206.toNat) 1 + (rd a2 x206.toNat)).tmod a0]).length from len_app (a := xs205) (b := [(rd (rw_ a1 x206.toNat) 0 + (rd a2 x206.toNat)).tmod a0, (rd (rw_ a1 x206.toNat) 1 + (rd a2 x206.toNat)).tmod a0]) rfl rfl) ▸ Bp302
        have S307 := S306.drop 0 rfl
        refine DR.w rfl rfl (s_app (by_ := 8) (us := ints xs205) (vs := ints [(rd (rw_ a1 x206.toNat) 0 + (rd a2 x206.toNat)).tmod a0, (rd (rw_ a1 x206.toNat) 1 + (rd a2 x206.toNat)).tmod a0]) Try.underlying34 Try.underlying34 Try.typeInfo2 Try.sizeOf2 Try.zeroValue2 rfl rfl rfl rfl rfl rfl rfl (S298.buf (k := 1) rfl Bo202 (ints_len1 rfl)) (S298.oview (k := 0) rfl (Sb.lit (n := 2) (by decide)) (ints_len1 rfl)) (ints_len1 rfl) ints_one k300 haG304 (show xs205.length + 2 = (xs205 ++ [(rd (rw_ a1 x206.toNat) 0 + (rd a2 x206.toNat)).tmod a0, (rd (rw_ a1 x206.toNat) 1 + (rd a2 x206.toNat)).tmod a0]).length from len_app (a := xs205) (b := [(rd (rw_ a1 x206.toNat) 0 + (rd a2 x206.toNat)).tmod a0, (rd (rw_ a1 x206.toNat) 1 + (rd a2 x206.toNat)).tmod a0]) rfl rfl)) (appR_len haG304) ?_
        refine DR.p rfl rfl (p_assign rfl) ?_
        refine DR.nil 24 [] hst (by kernel_rfl) trivial ?_
        refine AX.region ?_
        obtain ⟨k308, hd309⟩ := chk_some hd301
        refine AO.p rfl (p_addE rfl rfl k308) ?_
        refine AO.p rfl (p_move rfl) ?_
        refine AO.nil ?_
        obtain rfl := some_inj hd309
        have S311 := S307.front 0 rfl
        exact ⟨((xs205 ++ [(rd (rw_ a1 x206.toNat) 0 + (rd a2 x206.toNat)).tmod a0, (rd (rw_ a1 x206.toNat) 1 + (rd a2 x206.toNat)).tmod a0]), x206 + 1), hk263, (xs205 ++ [(rd (rw_ a1 x206.toNat) 0 + (rd a2 x206.toNat)).tmod a0, (rd (rw_ a1 x206.toNat) 1 + (rd a2 x206.toNat)).tmod a0]), (x206 + 1), p302, c303, rfl, S311, BS306, Sub.cons' rfl rfl (Sub.cons' rfl rfl (Sub.cons' rfl rfl (Sub.cons' rfl rfl (Sub.cons' rfl rfl (Sub.cons' rfl rfl (Sub.cons' rfl rfl (Sub.nil _)))))))⟩
      · have hd312 := bif_f c268 ho262
        refine AX.exit ?_
        obtain rfl := some_inj hd312
        have S313 := S264.front 0 rfl
        exact ⟨xs205, p203, c204, hk263, S313, Bo202, Sub.cons' rfl rfl (Sub.cons' rfl rfl (Sub.nil _))⟩
  · rintro t' G315 ⟨xs256, p254, c255, rfl, S314, Bo253, hsub316⟩
    refine ⟨_, hsub316, ?_⟩
    obtain ⟨r329, hb330, hd331⟩ := bnd_some hd259
    refine AX.cut (fun t' H' => ∃ (b328 : Bool), b328 = r329 ∧ St [] H H' [] ∧ Am.Sub [(6, .bool b328)] t') ?_ ?_
    · skip
      refine AX.region ?_
      refine AO.p rfl (p_move rfl) ?_
      obtain ⟨b332, h333, hd334⟩ := bnd_some hb330
      refine AO.c rfl (o_call (vs := [.slice p_a2 a2.length c_a2]) rfl Try.call61 (W_impl_areDifferent fu G315 p_a2 c_a2 a2 (S314.view v_a2) b332 h333)) ?_
      refine AO.p rfl (p_move rfl) ?_
      refine AO.cases (d := 44) rfl (fun c336 => ?_) (fun c336 => ?_)
      · have hd337 := bif_t c336 hd334
        refine AO.gp rfl rfl rfl (p_move rfl) ?_
        obtain ⟨b338, h339, hd340⟩ := bnd_some hd337
        refine AO.gc rfl rfl rfl (o_call (vs := [.slice p254 xs256.length c255]) rfl Try.call61 (W_impl_areDifferent fu G315 p254 c255 xs256 (S314.oview (k := 0) rfl Bo253 (ints_len1 rfl)) b338 h339)) ?_
        refine AO.p rfl (p_pickT rfl rfl) ?_
        refine AO.p rfl (p_assign rfl) ?_
        refine AO.nil ?_
        have S342 := S314.keep 0
        exact ⟨b338, (some_inj hd340), S342, Sub.cons' rfl rfl (Sub.nil _)⟩
      · have hd343 := bif_f c336 hd334
        refine AO.gn rfl rfl rfl ?_
        refine AO.gn rfl rfl rfl ?_
        refine AO.p rfl (p_pickF rfl rfl) ?_
        refine AO.p rfl (p_assign rfl) ?_
        refine AO.nil ?_
        have S344 := S314.keep 0
        exact ⟨false, (some_inj hd343), S344, Sub.cons' rfl rfl (Sub.nil _)⟩
    · rintro t' G346 ⟨b328, rfl, S345, hsub347⟩
      refine AX.sub hsub347 ?_
      refine AX.ret ?_
      obtain rfl := some_inj hd331
      exact ⟨.inr rfl, _, res1 rfl (rv_tmp rfl), rfl, (flatB_ok rfl), S345.hold⟩

set_option maxHeartbeats 4000000 in
theorem W_impl_IsAdder (fu : Nat) (H : AHeap) (a0 : Int) (p_a1 : Option Addr) (c_a1 : Nat) (T_a1 : Tb) (a1 : List (List Int)) (t_a1 : trows T_a1 = a1) (v_a1 : Vw H p_a1 a1.length c_a1 (tcells T_a1)) (w_a1 : TVw H T_a1) (p_a2 : Option Addr) (c_a2 : Nat) (a2 : List Int) (v_a2 : Vw H p_a2 a2.length c_a2 (ints a2)) (r0 : Bool) (r1 : Int) (hd : D_impl_IsAdder fu a0 a1 a2 = some (r0, r1)) : ACall Try.prog 31 [.int .i64 a0, .slice p_a1 a1.length c_a1, .slice p_a2 a2.length c_a2] H (.tuple #[.bool r0, .int .i64 r1]) H := by
  refine ACall.bodyP (N := 21) [(0, .int .i64 a0), (1, .slice p_a1 a1.length c_a1), (2, .slice p_a2 a2.length c_a2)] Try.func31 rfl rfl rfl rfl ?_
  unfold D_impl_IsAdder at hd
  have S0 : St [] H H [] := St.nil H
  refine AX.seq ?_
  refine AX.region ?_
  obtain ⟨G100, i101, hii101, hHG100, S102⟩ := S0.new (AObj.row false ([.int .i64 a0]))
  refine AO.c rfl (s_box (i := i101) (cs := [.int .i64 a0]) rfl hii101 rfl hHG100) ?_
  obtain ⟨G104, i105, hii105, hHG104, S106⟩ := S102.new (AObj.row false ([.slice p_a1 a1.length c_a1]))
  refine AO.c rfl (s_box (i := i105) (cs := [.slice p_a1 a1.length c_a1]) rfl hii105 rfl hHG104) ?_
  obtain ⟨G108, i109, hii109, hHG108, S110⟩ := S106.new (AObj.row false ([.slice p_a2 a2.length c_a2]))
  refine AO.c rfl (s_box (i := i109) (cs := [.slice p_a2 a2.length c_a2]) rfl hii109 rfl hHG108) ?_
  refine AO.p rfl (p_assign rfl) ?_
  refine AO.p rfl (p_assign rfl) ?_
  refine AO.nil ?_
  refine AX.seq ?_
  refine AX.seq ?_
  refine AX.region ?_
  refine AO.c rfl (s_load Try.isAgg2 rfl (row_cell (S110.get (k := 2) rfl) rfl)) ?_
  refine AO.p rfl (p_makeFunc (fs := []) (cs := [.pointer (some ⟨i109, 0, none⟩), .pointer (some ⟨i105, 0, none⟩), .pointer (some ⟨i101, 0, none⟩)]) rfl rfl) ?_
  refine AO.c rfl (s_load Try.isAgg22 rfl (row_cell (S110.get (k := 1) rfl) rfl)) ?_
  obtain ⟨G112, i113, hii113, hHG112, S114⟩ := S110.new (AObj.row false ([.slice p_a1 a1.length c_a1]))
  refine AO.c rfl (s_buildSl (i := i113) (vs := [(0, .slice p_a1 a1.length c_a1)]) (cs := [.slice p_a1 a1.length c_a1]) Try.underlying92 Try.sizeOf22 Try.zeroValue22 rfl rfl (by decide) rfl rfl hii113 hHG112) ?_
  obtain ⟨x116, h117, hd118⟩ := bnd_some hd
  refine AO.c rfl (o_call (vs := [.int .i64 a0, .func (.func 77) #[] #[.pointer (some ⟨i109, 0, none⟩), .pointer (some ⟨i105, 0, none⟩), .pointer (some ⟨i101, 0, none⟩)], .slice (some (Addr.mk i113 0 none)) 1 1]) rfl Try.call54 (W_impl_starterCode fu G112 a0 77 #[] #[.pointer (some ⟨i109, 0, none⟩), .pointer (some ⟨i105, 0, none⟩), .pointer (some ⟨i101, 0, none⟩)] (fun _ => D_impl_IsAdder_1 fu a2 a1 a0) Try.call77 (fun G' hG  b' hb' => W_impl_IsAdder_1 fu G' i109 false p_a2 c_a2 a2 (hG.view (S114.view v_a2)) (hG.get (S114.get (k := 1) rfl)) i105 false p_a1 c_a1 T_a1 a1 t_a1 (hG.view (S114.view v_a1)) (hG.tview (S114.tview w_a1)) (hG.get (S114.get (k := 2) rfl)) i101 false a0 (hG.get (S114.get (k := 3) rfl)) b' hb') (some (Addr.mk i113 0 none)) 1 [(p_a1, c_a1, T_a1)] [a1] (trows3_1 t_a1) (vw3_1 (S114.get (k := 0) rfl) t_a1 rfl) (TVw3.cons (S114.view v_a1) t_a1 rfl (S114.tview w_a1) TVw3.nil) x116 h117)) ?_
  refine AO.p rfl (p_assign rfl) ?_
  refine AO.nil ?_
  refine AX.seq ?_
  refine AX.region ?_
  refine AO.p rfl (p_move rfl) ?_
  refine AO.p rfl (p_neq rfl rfl) ?_
  refine AO.nil ?_
  refine AX.cond rfl (fun c120 => ?_) (fun c120 => ?_)
  · have hd121 := bif_t c120 hd118
    refine AX.seq ?_
    refine AX.region ?_
    refine AO.p rfl (p_move rfl) ?_
    refine AO.p rfl (p_assign rfl) ?_
    refine AO.p rfl (p_assign rfl) ?_
    refine AO.nil ?_
    refine AX.ret ?_
    obtain ⟨rfl, rfl⟩ := Prod.mk.inj (some_inj hd121)
    exact ⟨.inr rfl, _, res2 rfl (rv_tmp rfl) (rv_tmp rfl), rfl, (flat_t2 (flatB_ok rfl) (flatB_ok rfl)), S114.hold⟩
  · have hd123 := bif_f c120 hd118
    refine AX.skip ?_
    refine AX.seq ?_
    refine AX.region ?_
    refine AO.c rfl (s_load Try.isAgg2 rfl (row_cell (S114.get (k := 3) rfl) rfl)) ?_
    refine AO.c rfl (s_load Try.isAgg22 rfl (row_cell (S114.get (k := 2) rfl) rfl)) ?_
    refine AO.c rfl (s_load Try.isAgg34 rfl (row_cell (S114.get (k := 1) rfl) rfl)) ?_
    obtain ⟨b124, h125, hd126⟩ := bnd_some hd123
    refine AO.c rfl (o_call (vs := [.int .i64 a0, .slice p_a1 a1.length c_a1, .slice p_a2 a2.length c_a2]) rfl Try.call81 (W_impl_isAdder fu G112 a0 p_a1 c_a1 T_a1 a1 t_a1 (S114.view v_a1) (S114.tview w_a1) p_a2 c_a2 a2 (S114.view v_a2) b124 h125)) ?_
    refine AO.p rfl (p_assign rfl) ?_
    refine AO.p rfl (p_assign rfl) ?_
    refine AO.nil ?_
    refine AX.ret ?_
    obtain ⟨rfl, rfl⟩ := Prod.mk.inj (some_inj hd126)
    exact ⟨.inr rfl, _, res2 rfl (rv_tmp rfl) (rv_tmp rfl), rfl, (flat_t2 (flatB_ok rfl) (flatB_ok rfl)), S114.hold⟩

set_option maxHeartbeats 4000000 in
theorem W_spec_l03Orthogonal (fu : Nat) (H : AHeap) (a0 : Int) (p_a1 : Option Addr) (c_a1 : Nat) (T_a1 : Tb) (a1 : List (List Int)) (t_a1 : trows T_a1 = a1) (v_a1 : Vw H p_a1 a1.length c_a1 (tcells T_a1)) (w_a1 : TVw H T_a1) (p_a2 : Option Addr) (c_a2 : Nat) (T_a2 : Tb) (a2 : List (List Int)) (t_a2 : trows T_a2 = a2) (v_a2 : Vw H p_a2 a2.length c_a2 (tcells T_a2)) (w_a2 : TVw H T_a2) (r0 : Bool) (hd : D_spec_l03Orthogonal fu a0 a1 a2 = some r0) : ACall Try.prog 60 [.int .i64 a0, .slice p_a1 a1.length c_a1, .slice p_a2 a2.length c_a2] H (.bool r0) H := by
  refine ACall.bodyP (N := 115) [(0, .int .i64 a0), (1, .slice p_a1 a1.length c_a1), (2, .slice p_a2 a2.length c_a2)] Try.func60 rfl rfl rfl rfl ?_
  unfold D_spec_l03Orthogonal at hd
  have S0 : St [] H H [] := St.nil H
  refine AX.seq ?_
  refine AX.region ?_
  refine AO.p rfl (p_assign rfl) ?_
  refine AO.nil ?_
  refine AX.seq ?_
  refine AX.region ?_
  refine AO.p rfl (p_move rfl) ?_
  obtain ⟨k100, hd101⟩ := chk_some hd
  obtain ⟨G102, i103, hii103, hHG102, S104⟩ := S0.new (AObj.row false (bls (List.replicate a0.toNat false)))
  refine AO.c rfl (s_make1 (v := .bool false) (i := i103) (by_ := 1) Try.underlying91 Try.typeInfo4 Try.sizeOf4 Try.zeroValue4 rfl rfl rfl rfl rfl rfl k100 bls_rep hii103 hHG102) ?_
  refine AO.p rfl (p_assign rfl) ?_
  refine AO.nil ?_
  refine AX.seq ?_
  refine AX.region ?_
  refine AO.p rfl (p_move rfl) ?_
  obtain ⟨k106, hd107⟩ := chk_some hd101
  refine AO.p rfl (s_indexV (q := 0) Try.underlying91 Try.sizeOf4 rfl rfl rfl k106 rfl) ?_
  obtain ⟨G108, hHG108, S109⟩ := S104.set (k := 0) (i := i103) rfl (AObj.row false (bls ((List.replicate a0.toNat false).set 0 true)))
  refine AO.s (s_store Try.sizeOf4 rfl rfl rfl (S104.get (k := 0) rfl) (lt_len ((bls_length _).trans len_rep) (inR_lt k106)) ((congrArg (fun l => List.set _ _ (AObj.row false l)) (bls_set _ _ _)).trans hHG108)) ?_
  refine AO.nil ?_
  refine AX.seq ?_
  refine AX.seq ?_
  refine AX.region ?_
  refine AO.p rfl (p_assign rfl) ?_
  refine AO.nil ?_
  obtain ⟨r1785, hl1786, hd1787⟩ := bnd_some hd107
  refine AX.cutS (fun t' H' => .inl () = r1785 ∧ St [] H H' [] ∧ Am.Sub [] t') ?_ ?_
  · refine AX.block ?_
    refine AX.loopF (fun s' t' H' => ∃ (bs1227 : List Bool) (x1228 : Int), (bs1227, x1228) = s' ∧ St [] H H' [[(i103, AObj.row false (bls bs1227))]] ∧ bs1227.length = a0.toNat ∧ Am.Sub [(0, .int .i64 a0), (1, .slice p_a1 a1.length c_a1), (2, .slice p_a2 a2.length c_a2), (7, .slice (some (Addr.mk i103 0 none)) a0.toNat a0.toNat), (8, .int .i64 x1228)] t') hl1786 ?_ ?_
    · skip
      have S1788 := S109.front 0 rfl
      exact ⟨((List.replicate a0.toNat false).set 0 true), 0, rfl, S1788, (len_set len_rep), Sub.cons' rfl rfl (Sub.cons' rfl rfl (Sub.cons' rfl rfl (Sub.cons' rfl rfl (Sub.cons' rfl rfl (Sub.nil _)))))⟩
    · rintro n1789 _ t' G1793 ⟨bs1227, x1228, rfl, S1792, lbs1227, hsub1794⟩ o1795 ho1790 hk1791
      refine AX.sub hsub1794 ?_
      unfold D_spec_l03Orthogonal_s0 at ho1790
      refine AX.seq ?_
      refine AX.seq ?_
      refine AX.region ?_
      refine AO.p rfl (p_move rfl) ?_
      refine AO.p rfl (p_move rfl) ?_
      refine AO.p rfl (p_len_slice rfl Try.underlying22) ?_
      refine AO.p rfl (p_lss rfl rfl) ?_
      refine AO.nil ?_
      refine AX.cond rfl (fun c1796 => ?_) (fun c1796 => ?_)
      · have hd1797 := bif_t c1796 ho1790
        refine AX.skip ?_
        refine AX.seq ?_
        refine AX.block ?_
        refine AX.seq ?_
        refine DR.startS [false, false, false, false, false, false, false, false, false, false, false, false, false, false, true, false] mix (by kernel_rfl) (fun hst => ?_)
        refine DR.p rfl rfl (p_move rfl) ?_
        refine DR.p rfl rfl (p_move rfl) ?_
        obtain ⟨k1798, hd1799⟩ := chk_some hd1797
        obtain ⟨p1800, c1801, e1802, f1803⟩ := tget t_a1 (lt_len rfl (inR_lt k1798))
        refine DR.p rfl rfl (s_indexV (q := off p_a1 + x1228.toNat) Try.underlying22 Try.sizeOf34 rfl ((S1792.view v_a1).p f1803) rfl k1798 (o1 _ _)) ?_
        refine DR.r rfl rfl (r_load rfl Try.isAgg34) (one_read ((S1792.view v_a1).get _ _ f1803) (TVw.at (S1792.tview w_a1) e1802).inn.bel) ?_
        obtain ⟨k1804, hd1805⟩ := chk_some hd1799
        refine DR.p rfl rfl (s_indexV (q := off p1800 + 1) Try.underlying34 Try.sizeOf2 rfl ((TVw.at (S1792.tview w_a1) e1802).p (ints_get (lt_len rfl (inR_lt k1804)))) rfl k1804 (o1 _ _)) ?_
        refine DR.r rfl rfl (r_load rfl Try.isAgg2) (one_read ((TVw.at (S1792.tview w_a1) e1802).get _ _ (ints_get (lt_len rfl (inR_lt k1804)))) (.of_flat0 rfl)) ?_
        refine DR.p rfl rfl (p_move rfl) ?_
        refine DR.p rfl rfl (p_move rfl) ?_
        obtain ⟨k1806, hd1807⟩ := chk_some hd1805
        obtain ⟨p1808, c1809, e1810, f1811⟩ := tget t_a1 (lt_len rfl (inR_lt k1806))
        refine DR.p rfl rfl (s_indexV (q := off p_a1 + x1228.toNat) Try.underlying22 Try.sizeOf34 rfl ((S1792.view v_a1).p f1811) rfl k1806 (o1 _ _)) ?_
        refine DR.r rfl rfl (r_load rfl Try.isAgg34) (one_read ((S1792.view v_a1).get _ _ f1811) (TVw.at (S1792.tview w_a1) e1810).inn.bel) ?_
        obtain ⟨k1812, hd1813⟩ := chk_some hd1807
        refine DR.p rfl rfl (s_indexV (q := off p1808 + 0) Try.underlying34 Try.sizeOf2 rfl ((TVw.at (S1792.tview w_a1) e1810).p (ints_get (lt_len rfl (inR_lt k1812)))) rfl k1812 (o1 _ _)) ?_
        refine DR.r rfl rfl (r_load rfl Try.isAgg2) (one_read ((TVw.at (S1792.tview w_a1) e1810).get _ _ (ints_get (lt_len rfl (inR_lt k1812)))) (.of_flat0 rfl)) ?_
        obtain ⟨k1814, hd1815⟩ := chk_some hd1813
        refine DR.p rfl rfl (p_subE rfl rfl k1814) ?_
        refine DR.p rfl rfl (p_move rfl) ?_
        obtain ⟨x1816, h1817, hd1818⟩ := bnd_some hd1815
        refine DR.w rfl rfl (o_call (vs := [.int .i64 (rd (rw_ a1 x1228.toNat) 1 - (rd (rw_ a1 x1228.toNat) 0)), .int .i64 a0]) rfl Try.call100 (W_spec_l03Mod fu G1793 (rd (rw_ a1 x1228.toNat) 1 - (rd (rw_ a1 x1228.toNat) 0)) a0 x1816 h1817)) (Nat.le_refl _) ?_
        refine DR.p rfl rfl (p_assign rfl) ?_
        refine DR.nil 16 [] hst (by kernel_rfl) trivial ?_
        refine AX.seq ?_
        refine AX.region ?_
        refine AO.p rfl (p_assign rfl) ?_
        refine AO.nil ?_
        obtain ⟨r2207, hl2208, hd2209⟩ := bnd_some hd1818
        refine AX.cutS (fun t' H' => ∃ (bs2206 : List Bool), .inl bs2206 = r2207 ∧ St [] H H' [[(i103, AObj.row false (bls bs2206))]] ∧ bs2206.length = a0.toNat ∧ Am.Sub [(0, .int .i64 a0), (1, .slice p_a1 a1.length c_a1), (2, .slice p_a2 a2.length c_a2), (7, .slice (some (Addr.mk i103 0 none)) a0.toNat a0.toNat), (8, .int .i64 x1228)] t') ?_ ?_
        · refine AX.block ?_
          refine AX.loopF (fun s' t' H' => ∃ (bs2077 : List Bool) (x2078 : Int), (bs2077, x2078) = s' ∧ St [] H H' [[(i103, AObj.row false (bls bs2077))]] ∧ bs2077.length = a0.toNat ∧ Am.Sub [(0, .int .i64 a0), (1, .slice p_a1 a1.length c_a1), (2, .slice p_a2 a2.length c_a2), (7, .slice (some (Addr.mk i103 0 none)) a0.toNat a0.toNat), (8, .int .i64 x1228), (9, .int .i64 x1816), (10, .int .i64 x2078)] t') hl2208 ?_ ?_
          · skip
            have S2210 := S1792.front 0 rfl
            exact ⟨bs1227, 0, rfl, S2210, lbs1227, Sub.cons' rfl rfl (Sub.cons' rfl rfl (Sub.cons' rfl rfl (Sub.cons' rfl rfl (Sub.cons' rfl rfl (Sub.cons' rfl rfl (Sub.cons' rfl rfl (Sub.nil _)))))))⟩
          · rintro n2211 _ t' G2215 ⟨bs2077, x2078, rfl, S2214, lbs2077, hsub2216⟩ o2217 ho2212 hk2213
            refine AX.sub hsub2216 ?_
            unfold D_spec_l03Orthogonal_s1 at ho2212
            refine AX.seq ?_
            refine AX.seq ?_
            refine AX.region ?_
            refine AO.p rfl (p_move rfl) ?_
            refine AO.p rfl (p_move rfl) ?_
            refine AO.p rfl (p_len_slice rfl Try.underlying22) ?_
            refine AO.p rfl (p_lss rfl rfl) ?_
            refine AO.nil ?_
            refine AX.cond rfl (fun c2218 => ?_) (fun c2218 => ?_)
            · have hd2219 := bif_t c2218 ho2212
              refine AX.skip ?_
              refine AX.seq ?_
              refine AX.block ?_
              refine AX.seq ?_
              refine AX.region ?_
              refine AO.p rfl (p_assign rfl) ?_
              refine AO.nil ?_
              refine AX.seq ?_
              refine AX.seq ?_
              refine AX.region ?_
              refine AO.p rfl (p_move rfl) ?_
              refine AO.nil ?_
              refine AX.block ?_
              refine AX.seq ?_
              refine DR.startS [false, false, false, false, false, false, false, false, false, false, false, false, false, false, true, false, false] mix (by kernel_rfl) (fun hst => ?_)
              refine DR.p rfl rfl (p_move rfl) ?_
              refine DR.p rfl rfl (p_move rfl) ?_
              obtain ⟨k2220, hd2221⟩ := chk_some hd2219
              obtain ⟨p2222, c2223, e2224, f2225⟩ := tget t_a2 (lt_len rfl (inR_lt k2220))
              refine DR.p rfl rfl (s_indexV (q := off p_a2 + x2078.toNat) Try.underlying22 Try.sizeOf34 rfl ((S2214.view v_a2).p f2225) rfl k2220 (o1 _ _)) ?_
              refine DR.r rfl rfl (r_load rfl Try.isAgg34) (one_read ((S2214.view v_a2).get _ _ f2225) (TVw.at (S2214.tview w_a2) e2224).inn.bel) ?_
              obtain ⟨k2226, hd2227⟩ := chk_some hd2221
              refine DR.p rfl rfl (s_indexV (q := off p2222 + 1) Try.underlying34 Try.sizeOf2 rfl ((TVw.at (S2214.tview w_a2) e2224).p (ints_get (lt_len rfl (inR_lt k2226)))) rfl k2226 (o1 _ _)) ?_
              refine DR.r rfl rfl (r_load rfl Try.isAgg2) (one_read ((TVw.at (S2214.tview w_a2) e2224).get _ _ (ints_get (lt_len rfl (inR_lt k2226)))) (.of_flat0 rfl)) ?_
              refine DR.p rfl rfl (p_move rfl) ?_
              refine DR.p rfl rfl (p_move rfl) ?_
              obtain ⟨k2228, hd2229⟩ := chk_some hd2227
              obtain ⟨p2230, c2231, e2232, f2233⟩ := tget t_a2 (lt_len rfl (inR_lt k2228))
              refine DR.p rfl rfl (s_indexV (q := off p_a2 + x2078.toNat) Try.underlying22 Try.sizeOf34 rfl ((S2214.view v_a2).p f2233) rfl k2228 (o1 _ _)) ?_
              refine DR.r rfl rfl (r_load rfl Try.isAgg34) (one_read ((S2214.view v_a2).get _ _ f2233) (TVw.at (S2214.tview w_a2) e2232).inn.bel) ?_
              obtain ⟨k2234, hd2235⟩ := chk_some hd2229
              refine DR.p rfl rfl (s_indexV (q := off p2230 + 0) Try.underlying34 Try.sizeOf2 rfl ((TVw.at (S2214.tview w_a2) e2232).p (ints_get (lt_len rfl (inR_lt k2234)))) rfl k2234 (o1 _ _)) ?_
              refine DR.r rfl rfl (r_load rfl Try.isAgg2) (one_read ((TVw.at (S2214.tview w_a2) e2232).get _ _ (ints_get (lt_len rfl (inR_lt k2234)))) (.of_flat0 rfl)) ?_
              obtain ⟨k2236, hd2237⟩ := chk_some hd2235
              refine DR.p rfl rfl (p_subE rfl rfl k2236) ?_
              refine DR.p rfl rfl (p_move rfl) ?_
              obtain ⟨x2238, h2239, hd2240⟩ := bnd_some hd2237
              refine DR.w rfl rfl (o_call (vs := [.int .i64 (rd (rw_ a2 x2078.toNat) 1 - (rd (rw_ a2 x2078.toNat) 0)), .int .i64 a0]) rfl Try.call100 (W_spec_l03Mod fu G2215 (rd (rw_ a2 x2078.toNat) 1 - (rd (rw_ a2 x2078.toNat) 0)) a0 x2238 h2239)) (Nat.le_refl _) ?_
              refine DR.p rfl rfl (p_eql rfl rfl) ?_
              refine DR.p rfl rfl (p_assign rfl) ?_
              refine DR.nil 17 [] hst (by kernel_rfl) trivial ?_
              refine AX.cond rfl (fun c2242 => ?_) (fun c2242 => ?_)
              · have hd2243 := bif_t c2242 hd2240
                refine DR.startS [false, false, false, false, false, false, false, false, false, false, false, false, false, false, true, false] mix (by kernel_rfl) (fun hst => ?_)
                refine DR.p rfl rfl (p_move rfl) ?_
                refine DR.p rfl rfl (p_move rfl) ?_
                obtain ⟨k2244, hd2245⟩ := chk_some hd2243
                obtain ⟨p2246, c2247, e2248, f2249⟩ := tget t_a2 (lt_len rfl (inR_lt k2244))
                refine DR.p rfl rfl (s_indexV (q := off p_a2 + x2078.toNat) Try.underlying22 Try.sizeOf34 rfl ((S2214.view v_a2).p f2249) rfl k2244 (o1 _ _)) ?_
                refine DR.r rfl rfl (r_load rfl Try.isAgg34) (one_read ((S2214.view v_a2).get _ _ f2249) (TVw.at (S2214.tview w_a2) e2248).inn.bel) ?_
                obtain ⟨k2250, hd2251⟩ := chk_some hd2245
                refine DR.p rfl rfl (s_indexV (q := off p2246 + 0) Try.underlying34 Try.sizeOf2 rfl ((TVw.at (S2214.tview w_a2) e2248).p (ints_get (lt_len rfl (inR_lt k2250)))) rfl k2250 (o1 _ _)) ?_
                refine DR.r rfl rfl (r_load rfl Try.isAgg2) (one_read ((TVw.at (S2214.tview w_a2) e2248).get _ _ (ints_get (lt_len rfl (inR_lt k2250)))) (.of_flat0 rfl)) ?_
                refine DR.p rfl rfl (p_move rfl) ?_
                refine DR.p rfl rfl (p_move rfl) ?_
                obtain ⟨k2252, hd2253⟩ := chk_some hd2251
                obtain ⟨p2254, c2255, e2256, f2257⟩ := tget t_a1 (lt_len rfl (inR_lt k2252))
                refine DR.p rfl rfl (s_indexV (q := off p_a1 + x1228.toNat) Try.underlying22 Try.sizeOf34 rfl ((S2214.view v_a1).p f2257) rfl k2252 (o1 _ _)) ?_
                refine DR.r rfl rfl (r_load rfl Try.isAgg34) (one_read ((S2214.view v_a1).get _ _ f2257) (TVw.at (S2214.tview w_a1) e2256).inn.bel) ?_
                obtain ⟨k2258, hd2259⟩ := chk_some hd2253
                refine DR.p rfl rfl (s_indexV (q := off p2254 + 0) Try.underlying34 Try.sizeOf2 rfl ((TVw.at (S2214.tview w_a1) e2256).p (ints_get (lt_len rfl (inR_lt k2258)))) rfl k2258 (o1 _ _)) ?_
                refine DR.r rfl rfl (r_load rfl Try.isAgg2) (one_read ((TVw.at (S2214.tview w_a1) e2256).get _ _ (ints_get (lt_len rfl (inR_lt k2258)))) (.of_flat0 rfl)) ?_
                obtain ⟨k2260, hd2261⟩ := chk_some hd2259
                refine DR.p rfl rfl (p_subE rfl rfl k2260) ?_
                refine DR.p rfl rfl (p_move rfl) ?_
                obtain ⟨x2262, h2263, hd2264⟩ := bnd_some hd2261
                refine DR.w rfl rfl (o_call (vs := [.int .i64 (rd (rw_ a2 x2078.toNat) 0 - (rd (rw_ a1 x1228.toNat) 0)), .int .i64 a0]) rfl Try.call100 (W_spec_l03Mod fu G2215 (rd (rw_ a2 x2078.toNat) 0 - (rd (rw_ a1 x1228.toNat) 0)) a0 x2262 h2263)) (Nat.le_refl _) ?_
                refine DR.p rfl rfl (p_assign rfl) ?_
                refine DR.nil 16 [] hst (by kernel_rfl) trivial ?_
                refine AX.seq ?_
                refine AX.seq ?_
                refine AX.region ?_
                refine AO.p rfl (p_move rfl) ?_
                refine AO.p rfl (p_move rfl) ?_
                obtain ⟨k2266, hd2267⟩ := chk_some hd2264
                refine AO.p rfl (s_indexV (q := x2262.toNat) Try.underlying91 Try.sizeOf4 rfl rfl rfl k2266 (z1 _)) ?_
                refine AO.c rfl (s_load Try.isAgg4 rfl (row_cell (S2214.get (k := 0) rfl) (bls_get (lt_len lbs2077 (inR_lt k2266))))) ?_
                refine AO.nil ?_
                refine AX.cond rfl (fun c2268 => ?_) (fun c2268 => ?_)
                · have hd2269 := bif_t c2268 hd2267
                  refine AX.seq ?_
                  refine AX.region ?_
                  refine AO.p rfl (p_assign rfl) ?_
                  refine AO.nil ?_
                  refine AX.ret ?_
                  obtain rfl := some_inj hd2269
                  have z2270 : _ = r2207 := hk2213
                  subst z2270
                  obtain rfl := some_inj hd2209
                  have z2271 : _ = r1785 := hk1791
                  subst z2271
                  obtain rfl := some_inj hd1787
                  exact ⟨.inr rfl, _, res1 rfl (rv_tmp rfl), rfl, (flatB_ok rfl), S2214.hold⟩
                · have hd2272 := bif_f c2268 hd2267
                  refine AX.skip ?_
                  refine AX.region ?_
                  refine AO.p rfl (p_move rfl) ?_
                  refine AO.p rfl (p_move rfl) ?_
                  obtain ⟨k2273, hd2274⟩ := chk_some hd2272
                  refine AO.p rfl (s_indexV (q := x2262.toNat) Try.underlying91 Try.sizeOf4 rfl rfl rfl k2273 (z1 _)) ?_
                  obtain ⟨G2275, hHG2275, S2276⟩ := S2214.set (k := 0) (i := i103) rfl (AObj.row false (bls (bs2077.set x2262.toNat true)))
                  refine AO.s (s_store Try.sizeOf4 rfl rfl rfl (S2214.get (k := 0) rfl) (lt_len ((bls_length _).trans lbs2077) (inR_lt k2273)) ((congrArg (fun l => List.set _ _ (AObj.row false l)) (bls_set _ _ _)).trans hHG2275)) ?_
                  refine AO.nil ?_
                  refine AX.region ?_
                  refine AO.p rfl (p_move rfl) ?_
                  obtain ⟨k2277, hd2278⟩ := chk_some hd2274
                  refine AO.p rfl (p_addE rfl rfl k2277) ?_
                  refine AO.p rfl (p_assign rfl) ?_
                  refine AO.nil ?_
                  obtain rfl := some_inj hd2278
                  have S2280 := S2276.front 0 rfl
                  exact ⟨((bs2077.set x2262.toNat true), x2078 + 1), hk2213, (bs2077.set x2262.toNat true), (x2078 + 1), rfl, S2280, (len_set lbs2077), Sub.cons' rfl rfl (Sub.cons' rfl rfl (Sub.cons' rfl rfl (Sub.cons' rfl rfl (Sub.cons' rfl rfl (Sub.cons' rfl rfl (Sub.cons' rfl rfl (Sub.nil _)))))))⟩
              · have hd2281 := bif_f c2242 hd2240
                refine AX.seq ?_
                refine DR.startS [false, false, false, false, false, false, false, false, false, false, false, false, false, false, true, false, false] mix (by kernel_rfl) (fun hst => ?_)
                refine DR.p rfl rfl (p_move rfl) ?_
                refine DR.p rfl rfl (p_move rfl) ?_
                obtain ⟨k2282, hd2283⟩ := chk_some hd2281
                obtain ⟨p2284, c2285, e2286, f2287⟩ := tget t_a2 (lt_len rfl (inR_lt k2282))
                refine DR.p rfl rfl (s_indexV (q := off p_a2 + x2078.toNat) Try.underlying22 Try.sizeOf34 rfl ((S2214.view v_a2).p f2287) rfl k2282 (o1 _ _)) ?_
                refine DR.r rfl rfl (r_load rfl Try.isAgg34) (one_read ((S2214.view v_a2).get _ _ f2287) (TVw.at (S2214.tview w_a2) e2286).inn.bel) ?_
                obtain ⟨k2288, hd2289⟩ := chk_some hd2283
                refine DR.p rfl rfl (s_indexV (q := off p2284 + 0) Try.underlying34 Try.sizeOf2 rfl ((TVw.at (S2214.tview w_a2) e2286).p (ints_get (lt_len rfl (inR_lt k2288)))) rfl k2288 (o1 _ _)) ?_
                refine DR.r rfl rfl (r_load rfl Try.isAgg2) (one_read ((TVw.at (S2214.tview w_a2) e2286).get _ _ (ints_get (lt_len rfl (inR_lt k2288)))) (.of_flat0 rfl)) ?_
                refine DR.p rfl rfl (p_move rfl) ?_
                refine DR.p rfl rfl (p_move rfl) ?_
                obtain ⟨k2290, hd2291⟩ := chk_some hd2289
                obtain ⟨p2292, c2293, e2294, f2295⟩ := tget t_a2 (lt_len rfl (inR_lt k2290))
                refine DR.p rfl rfl (s_indexV (q := off p_a2 + x2078.toNat) Try.underlying22 Try.sizeOf34 rfl ((S2214.view v_a2).p f2295) rfl k2290 (o1 _ _)) ?_
                refine DR.r rfl rfl (r_load rfl Try.isAgg34) (one_read ((S2214.view v_a2).get _ _ f2295) (TVw.at (S2214.tview w_a2) e2294).inn.bel) ?_
                obtain ⟨k2296, hd2297⟩ := chk_some hd2291
                refine DR.p rfl rfl (s_indexV (q := off p2292 + 1) Try.underlying34 Try.sizeOf2 rfl ((TVw.at (S2214.tview w_a2) e2294).p (ints_get (lt_len rfl (inR_lt k2296)))) rfl k2296 (o1 _ _)) ?_
                refine DR.r rfl rfl (r_load rfl Try.isAgg2) (one_read ((TVw.at (S2214.tview w_a2) e2294).get _ _ (ints_get (lt_len rfl (inR_lt k2296)))) (.of_flat0 rfl)) ?_
                obtain ⟨k2298, hd2299⟩ := chk_some hd2297
                refine DR.p rfl rfl (p_subE rfl rfl k2298) ?_
                refine DR.p rfl rfl (p_move rfl) ?_
                obtain ⟨x2300, h2301, hd2302⟩ := bnd_some hd2299
                refine DR.w rfl rfl (o_call (vs := [.int .i64 (rd (rw_ a2 x2078.toNat) 0 - (rd (rw_ a2 x2078.toNat) 1)), .int .i64 a0]) rfl Try.call100 (W_spec_l03Mod fu G2215 (rd (rw_ a2 x2078.toNat) 0 - (rd (rw_ a2 x2078.toNat) 1)) a0 x2300 h2301)) (Nat.le_refl _) ?_
                refine DR.p rfl rfl (p_eql rfl rfl) ?_
                refine DR.p rfl rfl (p_assign rfl) ?_
                refine DR.nil 17 [] hst (by kernel_rfl) trivial ?_
                refine AX.cond rfl (fun c2304 => ?_) (fun c2304 => ?_)
                · have hd2305 := bif_t c2304 hd2302
                  refine DR.startS [false, false, false, false, false, false, false, false, false, false, false, false, false, false, true, false] mix (by kernel_rfl) (fun hst => ?_)
                  refine DR.p rfl rfl (p_move rfl) ?_
                  refine DR.p rfl rfl (p_move rfl) ?_
                  obtain ⟨k2306, hd2307⟩ := chk_some hd2305
                  obtain ⟨p2308, c2309, e2310, f2311⟩ := tget t_a2 (lt_len rfl (inR_lt k2306))
                  refine DR.p rfl rfl (s_indexV (q := off p_a2 + x2078.toNat) Try.underlying22 Try.sizeOf34 rfl ((S2214.view v_a2).p f2311) rfl k2306 (o1 _ _)) ?_
                  refine DR.r rfl rfl (r_load rfl Try.isAgg34) (one_read ((S2214.view v_a2).get _ _ f2311) (TVw.at (S2214.tview w_a2) e2310).inn.bel) ?_
                  obtain ⟨k2312, hd2313⟩ := chk_some hd2307
                  refine DR.p rfl rfl (s_indexV (q := off p2308 + 1) Try.underlying34 Try.sizeOf2 rfl ((TVw.at (S2214.tview w_a2) e2310).p (ints_get (lt_len rfl (inR_lt k2312)))) rfl k2312 (o1 _ _)) ?_
                  refine DR.r rfl rfl (r_load rfl Try.isAgg2) (one_read ((TVw.at (S2214.tview w_a2) e2310).get _ _ (ints_get (lt_len rfl (inR_lt k2312)))) (.of_flat0 rfl)) ?_
                  refine DR.p rfl rfl (p_move rfl) ?_
                  refine DR.p rfl rfl (p_move rfl) ?_
                  obtain ⟨k2314, hd2315⟩ := chk_some hd2313
                  obtain ⟨p2316, c2317, e2318, f2319⟩ := tget t_a1 (lt_len rfl (inR_lt k2314))
                  refine DR.p rfl rfl (s_indexV (q := off p_a1 + x1228.toNat) Try.underlying22 Try.sizeOf34 rfl ((S2214.view v_a1).p f2319) rfl k2314 (o1 _ _)) ?_
                  refine DR.r rfl rfl (r_load rfl Try.isAgg34) (one_read ((S2214.view v_a1).get _ _ f2319) (TVw.at (S2214.tview w_a1) e2318).inn.bel) ?_
                  obtain ⟨k2320, hd2321⟩ := chk_some hd2315
                  refine DR.p rfl rfl (s_indexV (q := off p2316 + 0) Try.underlying34 Try.sizeOf2 rfl ((TVw.at (S2214.tview w_a1) e2318).p (ints_get (lt_len rfl (inR_lt k2320)))) rfl k2320 (o1 _ _)) ?_
                  refine DR.r rfl rfl (r_load rfl Try.isAgg2) (one_read ((TVw.at (S2214.tview w_a1) e2318).get _ _ (ints_get (lt_len rfl (inR_lt k2320)))) (.of_flat0 rfl)) ?_
                  obtain ⟨k2322, hd2323⟩ := chk_some hd2321
                  refine DR.p rfl rfl (p_subE rfl rfl k2322) ?_
                  refine DR.p rfl rfl (p_move rfl) ?_
                  obtain ⟨x2324, h2325, hd2326⟩ := bnd_some hd2323
                  refine DR.w rfl rfl (o_call (vs := [.int .i64 (rd (rw_ a2 x2078.toNat) 1 - (rd (rw_ a1 x1228.toNat) 0)), .int .i64 a0]) rfl Try.call100 (W_spec_l03Mod fu G2215 (rd (rw_ a2 x2078.toNat) 1 - (rd (rw_ a1 x1228.toNat) 0)) a0 x2324 h2325)) (Nat.le_refl _) ?_
                  refine DR.p rfl rfl (p_assign rfl) ?_
                  refine DR.nil 16 [] hst (by kernel_rfl) trivial ?_
                  refine AX.seq ?_
                  refine AX.seq ?_
                  refine AX.region ?_
                  refine AO.p rfl (p_move rfl) ?_
                  refine AO.p rfl (p_move rfl) ?_
                  obtain ⟨k2328, hd2329⟩ := chk_some hd2326
                  refine AO.p rfl (s_indexV (q := x2324.toNat) Try.underlying91 Try.sizeOf4 rfl rfl rfl k2328 (z1 _)) ?_
                  refine AO.c rfl (s_load Try.isAgg4 rfl (row_cell (S2214.get (k := 0) rfl) (bls_get (lt_len lbs2077 (inR_lt k2328))))) ?_
                  refine AO.nil ?_
                  refine AX.cond rfl (fun c2330 => ?_) (fun c2330 => ?_)
                  · have hd2331 := bif_t c2330 hd2329
                    refine AX.seq ?_
                    refine AX.region ?_
                    refine AO.p rfl (p_assign rfl) ?_
                    refine AO.nil ?_
                    refine AX.ret ?_
                    obtain rfl := some_inj hd2331
                    have z2332 : _ = r2207 := hk2213
                    subst z2332
                    obtain rfl := some_inj hd2209
                    have z2333 : _ = r1785 := hk1791
                    subst z2333
                    obtain rfl := some_inj hd1787
                    exact ⟨.inr rfl, _, res1 rfl (rv_tmp rfl), rfl, (flatB_ok rfl), S2214.hold⟩
                  · have hd2334 := bif_f c2330 hd2329
                    refine AX.skip ?_
                    refine AX.region ?_
                    refine AO.p rfl (p_move rfl) ?_
                    refine AO.p rfl (p_move rfl) ?_
                    obtain ⟨k2335, hd2336⟩ := chk_some hd2334
                    refine AO.p rfl (s_indexV (q := x2324.toNat) Try.underlying91 Try.sizeOf4 rfl rfl rfl k2335 (z1 _)) ?_
                    obtain ⟨G2337, hHG2337, S2338⟩ := S2214.set (k := 0) (i := i103) rfl (AObj.row false (bls (bs2077.set x2324.toNat true)))
                    refine AO.s (s_store Try.sizeOf4 rfl rfl rfl (S2214.get (k := 0) rfl) (lt_len ((bls_length _).trans lbs2077) (inR_lt k2335)) ((congrArg (fun l => List.set _ _ (AObj.row false l)) (bls_set _ _ _)).trans hHG2337)) ?_
                    refine AO.nil ?_
                    refine AX.region ?_
                    refine AO.p rfl (p_move rfl) ?_
                    obtain ⟨k2339, hd2340⟩ := chk_some hd2336
                    refine AO.p rfl (p_addE rfl rfl k2339) ?_
                    refine AO.p rfl (p_assign rfl) ?_
                    refine AO.nil ?_
                    obtain rfl := some_inj hd2340
                    have S2342 := S2338.front 0 rfl
                    exact ⟨((bs2077.set x2324.toNat true), x2078 + 1), hk2213, (bs2077.set x2324.toNat true), (x2078 + 1), rfl, S2342, (len_set lbs2077), Sub.cons' rfl rfl (Sub.cons' rfl rfl (Sub.cons' rfl rfl (Sub.cons' rfl rfl (Sub.cons' rfl rfl (Sub.cons' rfl rfl (Sub.cons' rfl rfl (Sub.nil _)))))))⟩
                · have hd2343 := bif_f c2304 hd2302
                  refine AX.exit ?_
                  refine AX.region ?_
                  refine AO.p rfl (p_move rfl) ?_
                  obtain ⟨k2344, hd2345⟩ := chk_some hd2343
                  refine AO.p rfl (p_addE rfl rfl k2344) ?_
                  refine AO.p rfl (p_assign rfl) ?_
                  refine AO.nil ?_
                  obtain rfl := some_inj hd2345
                  have S2347 := S2214.front 0 rfl
                  exact ⟨(bs2077, x2078 + 1), hk2213, bs2077, (x2078 + 1), rfl, S2347, lbs2077, Sub.cons' rfl rfl (Sub.cons' rfl rfl (Sub.cons' rfl rfl (Sub.cons' rfl rfl (Sub.cons' rfl rfl (Sub.cons' rfl rfl (Sub.cons' rfl rfl (Sub.nil _)))))))⟩
            · have hd2348 := bif_f c2218 ho2212
              refine AX.exit ?_
              obtain rfl := some_inj hd2348
              have S2349 := S2214.front 0 rfl
              exact ⟨bs2077, hk2213, S2349, lbs2077, Sub.cons' rfl rfl (Sub.cons' rfl rfl (Sub.cons' rfl rfl (Sub.cons' rfl rfl (Sub.cons' rfl rfl (Sub.nil _)))))⟩
        · rintro t' G2351 ⟨bs2206, rfl, S2350, lbs2206, hsub2352⟩
          refine ⟨_, hsub2352, ?_⟩
          refine AX.region ?_
          refine AO.p rfl (p_move rfl) ?_
          obtain ⟨k2353, hd2354⟩ := chk_some hd2209
          refine AO.p rfl (p_addE rfl rfl k2353) ?_
          refine AO.p rfl (p_assign rfl) ?_
          refine AO.nil ?_
          obtain rfl := some_inj hd2354
          have S2356 := S2350.front 0 rfl
          exact ⟨(bs2206, x1228 + 1), hk1791, bs2206, (x1228 + 1), rfl, S2356, lbs2206, Sub.cons' rfl rfl (Sub.cons' rfl rfl (Sub.cons' rfl rfl (Sub.cons' rfl rfl (Sub.cons' rfl rfl (Sub.nil _)))))⟩
      · have hd2358 := bif_f c1796 ho1790
        refine AX.exit ?_
        obtain rfl := some_inj hd2358
        have S2359 := S1792.keep 0
        exact ⟨hk1791, S2359, Sub.nil _⟩
  · rintro t' G2361 ⟨rfl, S2360, hsub2362⟩
    refine ⟨_, hsub2362, ?_⟩
    refine AX.seq ?_
    refine AX.region ?_
    refine AO.p rfl (p_assign rfl) ?_
    refine AO.nil ?_
    refine AX.ret ?_
    obtain rfl := some_inj hd1787
    exact ⟨.inr rfl, _, res1 rfl (rv_tmp rfl), rfl, (flatB_ok rfl), S2360.hold⟩

set_option maxHeartbeats 4000000 in
theorem W_spec_AreOrthogonal (fu : Nat) (H : AHeap) (a0 : Int) (p_a1 : Option Addr) (c_a1 : Nat) (T_a1 : Tb) (a1 : List (List Int)) (t_a1 : trows T_a1 = a1) (v_a1 : Vw H p_a1 a1.length c_a1 (tcells T_a1)) (w_a1 : TVw H T_a1) (p_a2 : Option Addr) (c_a2 : Nat) (T_a2 : Tb) (a2 : List (List Int)) (t_a2 : trows T_a2 = a2) (v_a2 : Vw H p_a2 a2.length c_a2 (tcells T_a2)) (w_a2 : TVw H T_a2) (r0 : Bool) (r1 : Int) (hd : D_spec_AreOrthogonal fu a0 a1 a2 = some (r0, r1)) : ACall Try.prog 18 [.int .i64 a0, .slice p_a1 a1.length c_a1, .slice p_a2 a2.length c_a2] H (.tuple #[.bool r0, .int .i64 r1]) H := by
  refine ACall.bodyP (N := 37) [(0, .int .i64 a0), (1, .slice p_a1 a1.length c_a1), (2, .slice p_a2 a2.length c_a2)] Try.func18 rfl rfl rfl rfl ?_
  unfold D_spec_AreOrthogonal at hd
  have S0 : St [] H H [] := St.nil H
  refine AX.seq ?_
  refine AX.region ?_
  refine AO.p rfl (p_assign rfl) ?_
  refine AO.p rfl (p_assign rfl) ?_
  refine AO.nil ?_
  refine AX.seq ?_
  obtain ⟨r119, hb120, hd121⟩ := bnd_some hd
  refine AX.cut (fun t' H' => ∃ (b118 : Bool), b118 = r119 ∧ St [] H H' [] ∧ Am.Sub [(0, .int .i64 a0), (1, .slice p_a1 a1.length c_a1), (2, .slice p_a2 a2.length c_a2), (22, .bool b118)] t') ?_ ?_
  · skip
    refine AX.region ?_
    refine AO.p rfl (p_move rfl) ?_
    obtain ⟨b122, h123, hd124⟩ := bnd_some hb120
    refine AO.c rfl (o_call (vs := [.int .i64 a0]) rfl Try.call57 (W_spec_l03Modulus fu H a0 b122 h123)) ?_
    refine AO.p rfl (p_not rfl) ?_
    refine AO.p rfl (p_move rfl) ?_
    refine AO.cases (d := 11) rfl (fun c126 => ?_) (fun c126 => ?_)
    · have hd127 := bif_t c126 hd124
      refine AO.gn rfl rfl rfl ?_
      refine AO.gn rfl rfl rfl ?_
      refine AO.gn rfl rfl rfl ?_
      refine AO.gn rfl rfl rfl ?_
      refine AO.p rfl (p_pickT rfl rfl) ?_
      refine AO.p rfl (p_move rfl) ?_
      refine AO.gn rfl rfl rfl ?_
      refine AO.gn rfl rfl rfl ?_
      refine AO.gn rfl rfl rfl ?_
      refine AO.gn rfl rfl rfl ?_
      refine AO.p rfl (p_pickT rfl rfl) ?_
      refine AO.nil ?_
      exact ⟨true, (some_inj hd127), S0, Sub.cons' rfl rfl (Sub.cons' rfl rfl (Sub.cons' rfl rfl (Sub.cons' rfl rfl (Sub.nil _))))⟩
    · have hd128 := bif_f c126 hd124
      refine AO.gp rfl rfl rfl (p_move rfl) ?_
      refine AO.gp rfl rfl rfl (p_move rfl) ?_
      obtain ⟨b129, h130, hd131⟩ := bnd_some hd128
      refine AO.gc rfl rfl rfl (o_call (vs := [.int .i64 a0, .slice p_a1 a1.length c_a1]) rfl Try.call58 (W_spec_l03Lists fu H a0 p_a1 c_a1 T_a1 a1 t_a1 (S0.view v_a1) (S0.tview w_a1) b129 h130)) ?_
      refine AO.gp rfl rfl rfl (p_not rfl) ?_
      refine AO.p rfl (p_pickF rfl rfl) ?_
      refine AO.p rfl (p_move rfl) ?_
      refine AO.cases (d := 17) rfl (fun c133 => ?_) (fun c133 => ?_)
      · have hd134 := bif_t c133 hd131
        refine AO.gn rfl rfl rfl ?_
        refine AO.gn rfl rfl rfl ?_
        refine AO.gn rfl rfl rfl ?_
        refine AO.gn rfl rfl rfl ?_
        refine AO.p rfl (p_pickT rfl rfl) ?_
        refine AO.nil ?_
        exact ⟨true, (some_inj hd134), S0, Sub.cons' rfl rfl (Sub.cons' rfl rfl (Sub.cons' rfl rfl (Sub.cons' rfl rfl (Sub.nil _))))⟩
      · have hd135 := bif_f c133 hd131
        refine AO.gp rfl rfl rfl (p_move rfl) ?_
        refine AO.gp rfl rfl rfl (p_move rfl) ?_
        obtain ⟨b136, h137, hd138⟩ := bnd_some hd135
        refine AO.gc rfl rfl rfl (o_call (vs := [.int .i64 a0, .slice p_a2 a2.length c_a2]) rfl Try.call58 (W_spec_l03Lists fu H a0 p_a2 c_a2 T_a2 a2 t_a2 (S0.view v_a2) (S0.tview w_a2) b136 h137)) ?_
        refine AO.gp rfl rfl rfl (p_not rfl) ?_
        refine AO.p rfl (p_pickF rfl rfl) ?_
        refine AO.nil ?_
        exact ⟨(!b136), (some_inj hd138), S0, Sub.cons' rfl rfl (Sub.cons' rfl rfl (Sub.cons' rfl rfl (Sub.cons' rfl rfl (Sub.nil _))))⟩
  · rintro t' G141 ⟨b118, rfl, S140, hsub142⟩
    refine AX.sub hsub142 ?_
    refine AX.cond rfl (fun c143 => ?_) (fun c143 => ?_)
    · have hd144 := bif_t c143 hd121
      refine AX.seq ?_
      refine AX.region ?_
      refine AO.p rfl (p_assign rfl) ?_
      refine AO.p rfl (p_assign rfl) ?_
      refine AO.nil ?_
      refine AX.ret ?_
      obtain ⟨rfl, rfl⟩ := Prod.mk.inj (some_inj hd144)
      exact ⟨.inr rfl, _, res2 rfl (rv_tmp rfl) (rv_tmp rfl), rfl, (flat_t2 (flatB_ok rfl) (flatB_ok rfl)), S140.hold⟩
    · have hd146 := bif_f c143 hd121
      refine AX.skip ?_
      refine AX.seq ?_
      obtain ⟨r159, hb160, hd161⟩ := bnd_some hd146
      refine AX.cut (fun t' H' => ∃ (b158 : Bool), b158 = r159 ∧ St [] H H' [] ∧ Am.Sub [(0, .int .i64 a0), (1, .slice p_a1 a1.length c_a1), (2, .slice p_a2 a2.length c_a2), (32, .bool b158)] t') ?_ ?_
      · skip
        refine AX.region ?_
        refine AO.p rfl (p_move rfl) ?_
        refine AO.p rfl (p_move rfl) ?_
        obtain ⟨b162, h163, hd164⟩ := bnd_some hb160
        refine AO.c rfl (o_call (vs := [.int .i64 a0, .slice p_a1 a1.length c_a1]) rfl Try.call59 (W_spec_l03Is fu G141 a0 p_a1 c_a1 T_a1 a1 t_a1 (S140.view v_a1) (S140.tview w_a1) b162 h163)) ?_
        refine AO.p rfl (p_not rfl) ?_
        refine AO.p rfl (p_move rfl) ?_
        refine AO.cases (d := 27) rfl (fun c166 => ?_) (fun c166 => ?_)
        · have hd167 := bif_t c166 hd164
          refine AO.gn rfl rfl rfl ?_
          refine AO.gn rfl rfl rfl ?_
          refine AO.gn rfl rfl rfl ?_
          refine AO.gn rfl rfl rfl ?_
          refine AO.p rfl (p_pickT rfl rfl) ?_
          refine AO.nil ?_
          exact ⟨true, (some_inj hd167), S140, Sub.cons' rfl rfl (Sub.cons' rfl rfl (Sub.cons' rfl rfl (Sub.cons' rfl rfl (Sub.nil _))))⟩
        · have hd168 := bif_f c166 hd164
          refine AO.gp rfl rfl rfl (p_move rfl) ?_
          refine AO.gp rfl rfl rfl (p_move rfl) ?_
          obtain ⟨b169, h170, hd171⟩ := bnd_some hd168
          refine AO.gc rfl rfl rfl (o_call (vs := [.int .i64 a0, .slice p_a2 a2.length c_a2]) rfl Try.call59 (W_spec_l03Is fu G141 a0 p_a2 c_a2 T_a2 a2 t_a2 (S140.view v_a2) (S140.tview w_a2) b169 h170)) ?_
          refine AO.gp rfl rfl rfl (p_not rfl) ?_
          refine AO.p rfl (p_pickF rfl rfl) ?_
          refine AO.nil ?_
          exact ⟨(!b169), (some_inj hd171), S140, Sub.cons' rfl rfl (Sub.cons' rfl rfl (Sub.cons' rfl rfl (Sub.cons' rfl rfl (Sub.nil _))))⟩
      · rintro t' G174 ⟨b158, rfl, S173, hsub175⟩
        refine AX.sub hsub175 ?_
        refine AX.cond rfl (fun c176 => ?_) (fun c176 => ?_)
        · have hd177 := bif_t c176 hd161
          refine AX.seq ?_
          refine AX.region ?_
          refine AO.p rfl (p_assign rfl) ?_
          refine AO.p rfl (p_assign rfl) ?_
          refine AO.nil ?_
          refine AX.ret ?_
          obtain ⟨rfl, rfl⟩ := Prod.mk.inj (some_inj hd177)
          exact ⟨.inr rfl, _, res2 rfl (rv_tmp rfl) (rv_tmp rfl), rfl, (flat_t2 (flatB_ok rfl) (flatB_ok rfl)), S173.hold⟩
        · have hd179 := bif_f c176 hd161
          refine AX.skip ?_
          refine AX.seq ?_
          refine AX.region ?_
          refine AO.p rfl (p_move rfl) ?_
          refine AO.p rfl (p_move rfl) ?_
          refine AO.p rfl (p_move rfl) ?_
          obtain ⟨b180, h181, hd182⟩ := bnd_some hd179
          refine AO.c rfl (o_call (vs := [.int .i64 a0, .slice p_a1 a1.length c_a1, .slice p_a2 a2.length c_a2]) rfl Try.call60 (W_spec_l03Orthogonal fu G174 a0 p_a1 c_a1 T_a1 a1 t_a1 (S173.view v_a1) (S173.tview w_a1) p_a2 c_a2 T_a2 a2 t_a2 (S173.view v_a2) (S173.tview w_a2) b180 h181)) ?_
          refine AO.p rfl (p_assign rfl) ?_
          refine AO.p rfl (p_assign rfl) ?_
          refine AO.nil ?_
          refine AX.ret ?_
          obtain ⟨rfl, rfl⟩ := Prod.mk.inj (some_inj hd182)
          exact ⟨.inr rfl, _, res2 rfl (rv_tmp rfl) (rv_tmp rfl), rfl, (flat_t2 (flatB_ok rfl) (flatB_ok rfl)), S173.hold⟩

set_option maxHeartbeats 4000000 in
theorem W_impl_AreOrthogonal (fu : Nat) (H : AHeap) (a0 : Int) (p_a1 : Option Addr) (c_a1 : Nat) (T_a1 : Tb) (a1 : List (List Int)) (t_a1 : trows T_a1 = a1) (v_a1 : Vw H p_a1 a1.length c_a1 (tcells T_a1)) (w_a1 : TVw H T_a1) (p_a2 : Option Addr) (c_a2 : Nat) (T_a2 : Tb) (a2 : List (List Int)) (t_a2 : trows T_a2 = a2) (v_a2 : Vw H p_a2 a2.length c_a2 (tcells T_a2)) (w_a2 : TVw H T_a2) (r0 : Bool) (r1 : Int) (hd : D_impl_AreOrthogonal fu a0 a1 a2 = some (r0, r1)) : ACall Try.prog 19 [.int .i64 a0, .slice p_a1 a1.length c_a1, .slice p_a2 a2.length c_a2] H (.tuple #[.bool r0, .int .i64 r1]) H := by
  refine ACall.bodyP (N := 90) [(0, .int .i64 a0), (1, .slice p_a1 a1.length c_a1), (2, .slice p_a2 a2.length c_a2)] Try.func19 rfl rfl rfl rfl ?_
  unfold D_impl_AreOrthogonal at hd
  have S0 : St [] H H [] := St.nil H
  refine AX.seq ?_
  refine AX.region ?_
  refine AO.p rfl (p_assign rfl) ?_
  refine AO.p rfl (p_assign rfl) ?_
  refine AO.nil ?_
  refine AX.seq ?_
  refine AX.seq ?_
  refine AX.region ?_
  refine AO.p rfl (p_move rfl) ?_
  refine AO.p rfl (p_move rfl) ?_
  refine AO.p rfl (p_move rfl) ?_
  obtain ⟨G100, i101, hii101, hHG100, S102⟩ := S0.new (AObj.row false ([.slice p_a1 a1.length c_a1, .slice p_a2 a2.length c_a2]))
  refine AO.c rfl (s_buildSl (i := i101) (vs := [(0, .slice p_a1 a1.length c_a1), (1, .slice p_a2 a2.length c_a2)]) (cs := [.slice p_a1 a1.length c_a1, .slice p_a2 a2.length c_a2]) Try.underlying92 Try.sizeOf22 Try.zeroValue22 rfl rfl (by decide) rfl rfl hii101 hHG100) ?_
  obtain ⟨x104, h105, hd106⟩ := bnd_some hd
  refine AO.c rfl (o_call (vs := [.int .i64 a0, .func (.func 55) #[] #[], .slice (some (Addr.mk i101 0 none)) 2 2]) rfl Try.call54 (W_impl_starterCode fu G100 a0 55 #[] #[] (fun _ => D_impl_always fu ) Try.call55 (fun G' hG  b' hb' => W_impl_always fu G'  b' hb') (some (Addr.mk i101 0 none)) 2 [(p_a1, c_a1, T_a1), (p_a2, c_a2, T_a2)] [a1, a2] (trows3_2 t_a1 t_a2) (vw3_2 (S102.get (k := 0) rfl) t_a1 rfl t_a2 rfl) (TVw3.cons (S102.view v_a1) t_a1 rfl (S102.tview w_a1) (TVw3.cons (S102.view v_a2) t_a2 rfl (S102.tview w_a2) TVw3.nil)) x104 h105)) ?_
  refine AO.p rfl (p_assign rfl) ?_
  refine AO.nil ?_
  refine AX.seq ?_
  refine AX.region ?_
  refine AO.p rfl (p_move rfl) ?_
  refine AO.p rfl (p_neq rfl rfl) ?_
  refine AO.nil ?_
  refine AX.cond rfl (fun c108 => ?_) (fun c108 => ?_)
  · have hd109 := bif_t c108 hd106
    refine AX.seq ?_
    refine AX.region ?_
    refine AO.p rfl (p_move rfl) ?_
    refine AO.p rfl (p_assign rfl) ?_
    refine AO.p rfl (p_assign rfl) ?_
    refine AO.nil ?_
    refine AX.ret ?_
    obtain ⟨rfl, rfl⟩ := Prod.mk.inj (some_inj hd109)
    exact ⟨.inr rfl, _, res2 rfl (rv_tmp rfl) (rv_tmp rfl), rfl, (flat_t2 (flatB_ok rfl) (flatB_ok rfl)), S102.hold⟩
  · have hd111 := bif_f c108 hd106
    refine AX.skip ?_
    refine AX.seq ?_
    refine AX.region ?_
    obtain ⟨G112, i113, hii113, hHG112, S114⟩ := S102.new (AObj.row false (ints []))
    refine AO.c rfl (s_build0 (i := i113) Try.underlying34 Try.sizeOf2 hii113 hHG112) ?_
    refine AO.p rfl (p_assign rfl) ?_
    refine AO.nil ?_
    refine AX.seq ?_
    refine AX.seq ?_
    refine AX.region ?_
    refine AO.p rfl (p_move rfl) ?_
    refine AO.p rfl (p_len_slice rfl Try.underlying22) ?_
    refine AO.p rfl (p_move rfl) ?_
    refine AO.nil ?_
    obtain ⟨r1202, hl1203, hd1204⟩ := bnd_some hd111
    refine AX.cutS (fun t' H' => ∃ (xs1201 : List Int) (p1199 : Option Addr) (c1200 : Nat), xs1201 = r1202 ∧ St [] H H' [oseg p1199 (ints xs1201)] ∧ Sb p1199 (xs1201.length) c1200 1 ∧ Am.Sub [(9, .slice p1199 xs1201.length c1200)] t') ?_ ?_
    · refine AX.block ?_
      refine AX.loopF (fun s' t' H' => ∃ (xs839 : List Int) (x840 : Int) (p837 : Option Addr) (c838 : Nat), (xs839, x840) = s' ∧ St [] H H' [oseg p837 (ints xs839)] ∧ Sb p837 (xs839.length) c838 1 ∧ Am.Sub [(0, .int .i64 a0), (2, .slice p_a2 a2.length c_a2), (9, .slice p837 xs839.length c838), (24, .slice p_a1 a1.length c_a1), (25, .int .i64 ((a1.length : Nat) : Int)), (26, .int .i64 x840)] t') hl1203 ?_ ?_
      · skip
        have S1205 := S114.front 0 rfl
        have S1206 := S1205.keep 1
        exact ⟨[], 0, (some (Addr.mk i113 0 none)), 0, rfl, S1206, (Sb.lit (n := 0) (by decide)), Sub.cons' rfl rfl (Sub.cons' rfl rfl (Sub.cons' rfl rfl (Sub.cons' rfl rfl (Sub.cons' rfl rfl (Sub.cons' rfl rfl (Sub.nil _))))))⟩
      · rintro n1207 _ t' G1211 ⟨xs839, x840, p837, c838, rfl, S1210, Bo836, hsub1212⟩ o1213 ho1208 hk1209
        refine AX.sub hsub1212 ?_
        unfold D_impl_AreOrthogonal_s0 at ho1208
        refine AX.seq ?_
        refine AX.region ?_
        refine AO.p rfl (p_lss rfl rfl) ?_
        refine AO.nil ?_
        refine AX.seq ?_
        refine AX.cond rfl (fun c1214 => ?_) (fun c1214 => ?_)
        · have hd1215 := bif_t c1214 ho1208
          refine AX.skip ?_
          refine AX.seq ?_
          refine AX.block ?_
          refine AX.seq ?_
          refine AX.region ?_
          obtain ⟨k1216, hd1217⟩ := chk_some hd1215
          obtain ⟨p1218, c1219, e1220, f1221⟩ := tget t_a1 (lt_len rfl (inR_lt k1216))
          refine AO.p rfl (s_indexV (q := off p_a1 + x840.toNat) Try.underlying22 Try.sizeOf34 rfl ((S1210.view v_a1).p f1221) rfl k1216 (o1 _ _)) ?_
          refine AO.c rfl (s_load Try.isAgg34 rfl ((S1210.view v_a1).get _ _ f1221)) ?_
          refine AO.p rfl (p_assign rfl) ?_
          refine AO.nil ?_
          refine AX.seq ?_
          refine DR.startS [false, false, false, false, false, false, false, false] mix (by kernel_rfl) (fun hst => ?_)
          refine DR.p rfl rfl (p_move rfl) ?_
          obtain ⟨k1222, hd1223⟩ := chk_some hd1217
          refine DR.p rfl rfl (s_indexV (q := off p1218 + 1) Try.underlying34 Try.sizeOf2 rfl ((TVw.at (S1210.tview w_a1) e1220).p (ints_get (lt_len rfl (inR_lt k1222)))) rfl k1222 (o1 _ _)) ?_
          refine DR.r rfl rfl (r_load rfl Try.isAgg2) (one_read ((TVw.at (S1210.tview w_a1) e1220).get _ _ (ints_get (lt_len rfl (inR_lt k1222)))) (.of_flat0 rfl)) ?_
          refine DR.p rfl rfl (p_move rfl) ?_
          obtain ⟨k1224, hd1225⟩ := chk_some hd1223
          refine DR.p rfl rfl (s_indexV (q := off p1218 + 0) Try.underlying34 Try.sizeOf2 rfl ((TVw.at (S1210.tview w_a1) e1220).p (ints_get (lt_len rfl (inR_lt k1224)))) rfl k1224 (o1 _ _)) ?_
          refine DR.r rfl rfl (r_load rfl Try.isAgg2) (one_read ((TVw.at (S1210.tview w_a1) e1220).get _ _ (ints_get (lt_len rfl (inR_lt k1224)))) (.of_flat0 rfl)) ?_
          obtain ⟨k1226, hd1227⟩ := chk_some hd1225
          refine DR.p rfl rfl (p_subE rfl rfl k1226) ?_
          refine DR.p rfl rfl (p_assign rfl) ?_
          refine DR.nil 8 [] hst (by kernel_rfl) trivial ?_
          refine AX.seq ?_
          refine AX.region ?_
          refine AO.p rfl (p_move rfl) ?_
          refine AO.p rfl (p_len_slice rfl Try.underlying22) ?_
          refine AO.p rfl (p_move rfl) ?_
          refine AO.nil ?_
          obtain ⟨r1471, hl1472, hd1473⟩ := bnd_some hd1227
          refine AX.cutS (fun t' H' => ∃ (xs1470 : List Int) (p1468 : Option Addr) (c1469 : Nat), xs1470 = r1471 ∧ St [] H H' [oseg p1468 (ints xs1470)] ∧ Sb p1468 (xs1470.length) c1469 1 ∧ Am.Sub [(0, .int .i64 a0), (2, .slice p_a2 a2.length c_a2), (9, .slice p1468 xs1470.length c1469), (24, .slice p_a1 a1.length c_a1), (25, .int .i64 ((a1.length : Nat) : Int)), (26, .int .i64 x840)] t') ?_ ?_
          · refine AX.block ?_
            refine AX.loopF (fun s' t' H' => ∃ (xs1389 : List Int) (x1390 : Int) (p1387 : Option Addr) (c1388 : Nat), (xs1389, x1390) = s' ∧ St [] H H' [oseg p1387 (ints xs1389)] ∧ Sb p1387 (xs1389.length) c1388 1 ∧ Am.Sub [(0, .int .i64 a0), (2, .slice p_a2 a2.length c_a2), (9, .slice p1387 xs1389.length c1388), (11, .slice p1218 ((rw_ a1 x840.toNat).length) c1219), (12, .int .i64 (rd (rw_ a1 x840.toNat) 1 - (rd (rw_ a1 x840.toNat) 0))), (24, .slice p_a1 a1.length c_a1), (25, .int .i64 ((a1.length : Nat) : Int)), (26, .int .i64 x840), (37, .slice p_a2 a2.length c_a2), (38, .int .i64 ((a2.length : Nat) : Int)), (39, .int .i64 x1390)] t') hl1472 ?_ ?_
            · skip
              have S1474 := S1210.front 0 rfl
              exact ⟨xs839, 0, p837, c838, rfl, S1474, Bo836, Sub.cons' rfl rfl (Sub.cons' rfl rfl (Sub.cons' rfl rfl (Sub.cons' rfl rfl (Sub.cons' rfl rfl (Sub.cons' rfl rfl (Sub.cons' rfl rfl (Sub.cons' rfl rfl (Sub.cons' rfl rfl (Sub.cons' rfl rfl (Sub.cons' rfl rfl (Sub.nil _)))))))))))⟩
            · rintro n1475 _ t' G1479 ⟨xs1389, x1390, p1387, c1388, rfl, S1478, Bo1386, hsub1480⟩ o1481 ho1476 hk1477
              refine AX.sub hsub1480 ?_
              unfold D_impl_AreOrthogonal_s1 at ho1476
              refine AX.seq ?_
              refine AX.region ?_
              refine AO.p rfl (p_lss rfl rfl) ?_
              refine AO.nil ?_
              refine AX.seq ?_
              refine AX.cond rfl (fun c1482 => ?_) (fun c1482 => ?_)
              · have hd1483 := bif_t c1482 ho1476
                refine AX.skip ?_
                refine AX.seq ?_
                refine AX.block ?_
                refine AX.seq ?_
                refine AX.region ?_
                obtain ⟨k1484, hd1485⟩ := chk_some hd1483
                obtain ⟨p1486, c1487, e1488, f1489⟩ := tget t_a2 (lt_len rfl (inR_lt k1484))
                refine AO.p rfl (s_indexV (q := off p_a2 + x1390.toNat) Try.underlying22 Try.sizeOf34 rfl ((S1478.view v_a2).p f1489) rfl k1484 (o1 _ _)) ?_
                refine AO.c rfl (s_load Try.isAgg34 rfl ((S1478.view v_a2).get _ _ f1489)) ?_
                refine AO.p rfl (p_assign rfl) ?_
                refine AO.nil ?_
                refine AX.seq ?_
                refine DR.startS [false, false, false, false, false, false, false] mix (by kernel_rfl) (fun hst => ?_)
                refine DR.p rfl rfl (p_move rfl) ?_
                obtain ⟨k1490, hd1491⟩ := chk_some hd1485
                refine DR.p rfl rfl (s_indexV (q := off p1486 + 1) Try.underlying34 Try.sizeOf2 rfl ((TVw.at (S1478.tview w_a2) e1488).p (ints_get (lt_len rfl (inR_lt k1490)))) rfl k1490 (o1 _ _)) ?_
                refine DR.r rfl rfl (r_load rfl Try.isAgg2) (one_read ((TVw.at (S1478.tview w_a2) e1488).get _ _ (ints_get (lt_len rfl (inR_lt k1490)))) (.of_flat0 rfl)) ?_
                refine DR.p rfl rfl (p_move rfl) ?_
                obtain ⟨k1492, hd1493⟩ := chk_some hd1491
                refine DR.p rfl rfl (s_indexV (q := off p1486 + 0) Try.underlying34 Try.sizeOf2 rfl ((TVw.at (S1478.tview w_a2) e1488).p (ints_get (lt_len rfl (inR_lt k1492)))) rfl k1492 (o1 _ _)) ?_
                refine DR.r rfl rfl (r_load rfl Try.isAgg2) (one_read ((TVw.at (S1478.tview w_a2) e1488).get _ _ (ints_get (lt_len rfl (inR_lt k1492)))) (.of_flat0 rfl)) ?_
                obtain ⟨k1494, hd1495⟩ := chk_some hd1493
                refine DR.p rfl rfl (p_subE rfl rfl k1494) ?_
                refine DR.nil 7 [] hst (by kernel_rfl) trivial ?_
                refine AX.block ?_
                refine AX.seq ?_
                refine AX.region ?_
                refine AO.p rfl (p_move rfl) ?_
                refine AO.p rfl (p_eql rfl rfl) ?_
                refine AO.p rfl (p_assign rfl) ?_
                refine AO.nil ?_
                refine AX.cond rfl (fun c1496 => ?_) (fun c1496 => ?_)
                · have hd1497 := bif_t c1496 hd1495
                  refine DR.startS [false, false, false, false, false, false, false, false, false, false, false, false, false, true, false] mix (by kernel_rfl) (fun hst => ?_)
                  refine DR.p rfl rfl (p_move rfl) ?_
                  refine DR.p rfl rfl (p_move rfl) ?_
                  obtain ⟨k1498, hd1499⟩ := chk_some hd1497
                  refine DR.p rfl rfl (s_indexV (q := off p1486 + 0) Try.underlying34 Try.sizeOf2 rfl ((TVw.at (S1478.tview w_a2) e1488).p (ints_get (lt_len rfl (inR_lt k1498)))) rfl k1498 (o1 _ _)) ?_
                  refine DR.r rfl rfl (r_load rfl Try.isAgg2) (one_read ((TVw.at (S1478.tview w_a2) e1488).get _ _ (ints_get (lt_len rfl (inR_lt k1498)))) (.of_flat0 rfl)) ?_
                  refine DR.p rfl rfl (p_move rfl) ?_
                  obtain ⟨k1500, hd1501⟩ := chk_some hd1499
                  refine DR.p rfl rfl (s_indexV (q := off p1218 + 0) Try.underlying34 Try.sizeOf2 rfl ((TVw.at (S1478.tview w_a1) e1220).p (ints_get (lt_len rfl (inR_lt k1500)))) rfl k1500 (o1 _ _)) ?_
                  refine DR.r rfl rfl (r_load rfl Try.isAgg2) (one_read ((TVw.at (S1478.tview w_a1) e1220).get _ _ (ints_get (lt_len rfl (inR_lt k1500)))) (.of_flat0 rfl)) ?_
                  obtain ⟨k1502, hd1503⟩ := chk_some hd1501
                  refine DR.p rfl rfl (p_subE rfl rfl k1502) ?_
                  refine DR.p rfl rfl (p_move rfl) ?_
                  obtain ⟨k1504, hd1505⟩ := chk_some hd1503
                  refine DR.p rfl rfl (p_addE rfl rfl k1504) ?_
                  refine DR.p rfl rfl (p_move rfl) ?_
                  obtain ⟨k1506, hd1507⟩ := chk_some hd1505
                  refine DR.p rfl rfl (p_remE rfl rfl k1506) ?_
                  obtain ⟨G1508, i1509, hii1509, hHG1508, S1510⟩ := S1478.new (AObj.row false (ints [(rd (rw_ a2 x1390.toNat) 0 - (rd (rw_ a1 x840.toNat) 0) + a0).tmod a0]))
                  refine DR.a rfl rfl hii1509 hHG1508 (a_buildInts (vs := [(0, .int .i64 ((rd (rw_ a2 x1390.toNat) 0 - (rd (rw_ a1 x840.toNat) 0) + a0).tmod a0))]) (xs := [(rd (rw_ a2 x1390.toNat) 0 - (rd (rw_ a1 x840.toNat) 0) + a0).tmod a0]) Try.underlying34 Try.sizeOf2 Try.zeroValue2 rfl rfl (by decide) rfl rfl) ?_
                  obtain ⟨k1512, hd1513⟩ := chk_some hd1507
                  obtain ⟨p1514, c1515, G1516, haG1516, S1517, Bp1514⟩ := S1510.app (k := 1) rfl Bo1386 (ints [(rd (rw_ a2 x1390.toNat) 0 - (rd (rw_ a1 x840.toNat) 0) + a0).tmod a0]) 1 (ints_len1 rfl)
                  have S1518 := S1517.cellsEq (k := 1) (us' := ints (xs1389 ++ [(rd (rw_ a2 x1390.toNat) 0 - (rd (rw_ a1 x840.toNat) 0) + a0).tmod a0])) (ints_app _ _) rfl
                  have BS1518 : Sb p1514 ((xs1389 ++ [(rd (rw_ a2 x1390.toNat) 0 - (rd (rw_ a1 x840.toNat) 0) + a0).tmod a0]).length) c1515 1 := (show xs1389.length + 1 = (xs1389 ++ [(rd (rw_ a2 x1390.toNat) 0 - (rd (rw_ a1 x840.toNat) 0) + a0).tmod a0]).length from len_app (a := xs1389) (b := [(rd (rw_ a2 x1390.toNat) 0 - (rd (rw_ a1 x840.toNat) 0) + a0).tmod a0]) rfl rfl) ▸ Bp1514
                  have S1519 := S1518.drop 0 rfl
                  refine DR.w rfl rfl (s_app (by_ := 8) (us := ints xs1389) (vs := ints [(rd (rw_ a2 x1390.toNat) 0 - (rd (rw_ a1 x840.toNat) 0) + a0).tmod a0]) Try.underlying34 Try.underlying34 Try.typeInfo2 Try.sizeOf2 Try.zeroValue2 rfl rfl rfl rfl rfl rfl rfl (S1510.buf (k := 1) rfl Bo1386 (ints_len1 rfl)) (S1510.oview (k := 0) rfl (Sb.lit (n := 1) (by decide)) (ints_len1 rfl)) (ints_len1 rfl) ints_one k1512 haG1516 (show xs1389.length + 1 = (xs1389 ++ [(rd (rw_ a2 x1390.toNat) 0 - (rd (rw_ a1 x840.toNat) 0) + a0).tmod a0]).length from len_app (a := xs1389) (b := [(rd (rw_ a2 x1390.toNat) 0 - (rd (rw_ a1 x840.toNat) 0) + a0).tmod a0]) rfl rfl)) (appR_len haG1516) ?_
                  refine DR.p rfl rfl (p_assign rfl) ?_
                  refine DR.nil 15 [] hst (by kernel_rfl) trivial ?_
                  refine AX.region ?_
                  obtain ⟨k1520, hd1521⟩ := chk_some hd1513
                  refine AO.p rfl (p_addE rfl rfl k1520) ?_
                  refine AO.p rfl (p_move rfl) ?_
                  refine AO.nil ?_
                  obtain rfl := some_inj hd1521
                  have S1523 := S1519.front 0 rfl
                  exact ⟨((xs1389 ++ [(rd (rw_ a2 x1390.toNat) 0 - (rd (rw_ a1 x840.toNat) 0) + a0).tmod a0]), x1390 + 1), hk1477, (xs1389 ++ [(rd (rw_ a2 x1390.toNat) 0 - (rd (rw_ a1 x840.toNat) 0) + a0).tmod a0]), (x1390 + 1), p1514, c1515, rfl, S1523, BS1518, Sub.cons' rfl rfl (Sub.cons' rfl rfl (Sub.cons' rfl rfl (Sub.cons' rfl rfl (Sub.cons' rfl rfl (Sub.cons' rfl rfl (Sub.cons' rfl rfl (Sub.cons' rfl rfl (Sub.cons' rfl rfl (Sub.cons' rfl rfl (Sub.cons' rfl rfl (Sub.nil _)))))))))))⟩
                · have hd1524 := bif_f c1496 hd1495
                  refine AX.seq ?_
                  refine AX.region ?_
                  refine AO.p rfl (p_move rfl) ?_
                  refine AO.p rfl (p_move rfl) ?_
                  obtain ⟨k1525, hd1526⟩ := chk_some hd1524
                  refine AO.p rfl (p_subE rfl rfl k1525) ?_
                  refine AO.p rfl (p_eql rfl rfl) ?_
                  refine AO.p rfl (p_assign rfl) ?_
                  refine AO.nil ?_
                  refine AX.cond rfl (fun c1527 => ?_) (fun c1527 => ?_)
                  · have hd1528 := bif_t c1527 hd1526
                    refine DR.startS [false, false, false, false, false, false, false, false, false, false, false, false, false, true, false] mix (by kernel_rfl) (fun hst => ?_)
                    refine DR.p rfl rfl (p_move rfl) ?_
                    refine DR.p rfl rfl (p_move rfl) ?_
                    obtain ⟨k1529, hd1530⟩ := chk_some hd1528
                    refine DR.p rfl rfl (s_indexV (q := off p1486 + 1) Try.underlying34 Try.sizeOf2 rfl ((TVw.at (S1478.tview w_a2) e1488).p (ints_get (lt_len rfl (inR_lt k1529)))) rfl k1529 (o1 _ _)) ?_
                    refine DR.r rfl rfl (r_load rfl Try.isAgg2) (one_read ((TVw.at (S1478.tview w_a2) e1488).get _ _ (ints_get (lt_len rfl (inR_lt k1529)))) (.of_flat0 rfl)) ?_
                    refine DR.p rfl rfl (p_move rfl) ?_
                    obtain ⟨k1531, hd1532⟩ := chk_some hd1530
                    refine DR.p rfl rfl (s_indexV (q := off p1218 + 0) Try.underlying34 Try.sizeOf2 rfl ((TVw.at (S1478.tview w_a1) e1220).p (ints_get (lt_len rfl (inR_lt k1531)))) rfl k1531 (o1 _ _)) ?_
                    refine DR.r rfl rfl (r_load rfl Try.isAgg2) (one_read ((TVw.at (S1478.tview w_a1) e1220).get _ _ (ints_get (lt_len rfl (inR_lt k1531)))) (.of_flat0 rfl)) ?_
                    obtain ⟨k1533, hd1534⟩ := chk_some hd1532
                    refine DR.p rfl rfl (p_subE rfl rfl k1533) ?_
                    refine DR.p rfl rfl (p_move rfl) ?_
                    obtain ⟨k1535, hd1536⟩ := chk_some hd1534
                    refine DR.p rfl rfl (p_addE rfl rfl k1535) ?_
                    refine DR.p rfl rfl (p_move rfl) ?_
                    obtain ⟨k1537, hd1538⟩ := chk_some hd1536
                    refine DR.p rfl rfl (p_remE rfl rfl k1537) ?_
                    obtain ⟨G1539, i1540, hii1540, hHG1539, S1541⟩ := S1478.new (AObj.row false (ints [(rd (rw_ a2 x1390.toNat) 1 - (rd (rw_ a1 x840.toNat) 0) + a0).tmod a0]))
                    refine DR.a rfl rfl hii1540 hHG1539 (a_buildInts (vs := [(0, .int .i64 ((rd (rw_ a2 x1390.toNat) 1 - (rd (rw_ a1 x840.toNat) 0) + a0).tmod a0))]) (xs := [(rd (rw_ a2 x1390.toNat) 1 - (rd (rw_ a1 x840.toNat) 0) + a0).tmod a0]) Try.underlying34 Try.sizeOf2 Try.zeroValue2 rfl rfl (by decide) rfl rfl) ?_
                    obtain ⟨k1543, hd1544⟩ := chk_some hd1538
                    obtain ⟨p1545, c1546, G1547, haG1547, S1548, Bp1545⟩ := S1541.app (k := 1) rfl Bo1386 (ints [(rd (rw_ a2 x1390.toNat) 1 - (rd (rw_ a1 x840.toNat) 0) + a0).tmod a0]) 1 (ints_len1 rfl)
                    have S1549 := S1548.cellsEq (k := 1) (us' := ints (xs1389 ++ [(rd (rw_ a2 x1390.toNat) 1 - (rd (rw_ a1 x840.toNat) 0) + a0).tmod a0])) (ints_app _ _) rfl
                    have BS1549 : Sb p1545 ((xs1389 ++ [(rd (rw_ a2 x1390.toNat) 1 - (rd (rw_ a1 x840.toNat) 0) + a0).tmod a0]).length) c1546 1 := (show xs1389.length + 1 = (xs1389 ++ [(rd (rw_ a2 x1390.toNat) 1 - (rd (rw_ a1 x840.toNat) 0) + a0).tmod a0]).length from len_app (a := xs1389) (b := [(rd (rw_ a2 x1390.toNat) 1 - (rd (rw_ a1 x840.toNat) 0) + a0).tmod a0]) rfl rfl) ▸ Bp1545
                    have S1550 := S1549.drop 0 rfl
                    refine DR.w rfl rfl (s_app (by_ := 8) (us := ints xs1389) (vs := ints [(rd (rw_ a2 x1390.toNat) 1 - (rd (rw_ a1 x840.toNat) 0) + a0).tmod a0]) Try.underlying34 Try.underlying34 Try.typeInfo2 Try.sizeOf2 Try.zeroValue2 rfl rfl rfl rfl rfl rfl rfl (S1541.buf (k := 1) rfl Bo1386 (ints_len1 rfl)) (S1541.oview (k := 0) rfl (Sb.lit (n := 1) (by decide)) (ints_len1 rfl)) (ints_len1 rfl) ints_one k1543 haG1547 (show xs1389.length + 1 = (xs1389 ++ [(rd (rw_ a2 x1390.toNat) 1 - (rd (rw_ a1 x840.toNat) 0) + a0).tmod a0]).length from len_app (a := xs1389) (b := [(rd (rw_ a2 x1390.toNat) 1 - (rd (rw_ a1 x840.toNat) 0) + a0).tmod a0]) rfl rfl)) (appR_len haG1547) ?_
                    refine DR.p rfl rfl (p_assign rfl) ?_
                    refine DR.nil 15 [] hst (by kernel_rfl) trivial ?_
                    refine AX.region ?_
                    obtain ⟨k1551, hd1552⟩ := chk_some hd1544
                    refine AO.p rfl (p_addE rfl rfl k1551) ?_
                    refine AO.p rfl (p_move rfl) ?_
                    refine AO.nil ?_
                    obtain rfl := some_inj hd1552
                    have S1554 := S1550.front 0 rfl
                    exact ⟨((xs1389 ++ [(rd (rw_ a2 x1390.toNat) 1 - (rd (rw_ a1 x840.toNat) 0) + a0).tmod a0]), x1390 + 1), hk1477, (xs1389 ++ [(rd (rw_ a2 x1390.toNat) 1 - (rd (rw_ a1 x840.toNat) 0) + a0).tmod a0]), (x1390 + 1), p1545, c1546, rfl, S1554, BS1549, Sub.cons' rfl rfl (Sub.cons' rfl rfl (Sub.cons' rfl rfl (Sub.cons' rfl rfl (Sub.cons' rfl rfl (Sub.cons' rfl rfl (Sub.cons' rfl rfl (Sub.cons' rfl rfl (Sub.cons' rfl rfl (Sub.cons' rfl rfl (Sub.cons' rfl rfl (Sub.nil _)))))))))))⟩
                  · have hd1555 := bif_f c1527 hd1526
                    refine AX.skip ?_
                    refine AX.region ?_
                    obtain ⟨k1556, hd1557⟩ := chk_some hd1555
                    refine AO.p rfl (p_addE rfl rfl k1556) ?_
                    refine AO.p rfl (p_move rfl) ?_
                    refine AO.nil ?_
                    obtain rfl := some_inj hd1557
                    have S1559 := S1478.front 0 rfl
                    exact ⟨(xs1389, x1390 + 1), hk1477, xs1389, (x1390 + 1), p1387, c1388, rfl, S1559, Bo1386, Sub.cons' rfl rfl (Sub.cons' rfl rfl (Sub.cons' rfl rfl (Sub.cons' rfl rfl (Sub.cons' rfl rfl (Sub.cons' rfl rfl (Sub.cons' rfl rfl (Sub.cons' rfl rfl (Sub.cons' rfl rfl (Sub.cons' rfl rfl (Sub.cons' rfl rfl (Sub.nil _)))))))))))⟩
              · have hd1560 := bif_f c1482 ho1476
                refine AX.exit ?_
                obtain rfl := some_inj hd1560
                have S1561 := S1478.front 0 rfl
                exact ⟨xs1389, p1387, c1388, hk1477, S1561, Bo1386, Sub.cons' rfl rfl (Sub.cons' rfl rfl (Sub.cons' rfl rfl (Sub.cons' rfl rfl (Sub.cons' rfl rfl (Sub.cons' rfl rfl (Sub.nil _))))))⟩
          · rintro t' G1563 ⟨xs1470, p1468, c1469, rfl, S1562, Bo1467, hsub1564⟩
            refine ⟨_, hsub1564, ?_⟩
            refine AX.region ?_
            obtain ⟨k1565, hd1566⟩ := chk_some hd1473
            refine AO.p rfl (p_addE rfl rfl k1565) ?_
            refine AO.p rfl (p_move rfl) ?_
            refine AO.nil ?_
            obtain rfl := some_inj hd1566
            have S1568 := S1562.front 0 rfl
            exact ⟨(xs1470, x840 + 1), hk1209, xs1470, (x840 + 1), p1468, c1469, rfl, S1568, Bo1467, Sub.cons' rfl rfl (Sub.cons' rfl rfl (Sub.cons' rfl rfl (Sub.cons' rfl rfl (Sub.cons' rfl rfl (Sub.cons' rfl rfl (Sub.nil _))))))⟩
        · have hd1569 := bif_f c1214 ho1208
          refine AX.exit ?_
          obtain rfl := some_inj hd1569
          have S1570 := S1210.front 0 rfl
          exact ⟨xs839, p837, c838, hk1209, S1570, Bo836, Sub.cons' rfl rfl (Sub.nil _)⟩
    · rintro t' G1572 ⟨xs1201, p1199, c1200, rfl, S1571, Bo1198, hsub1573⟩
      refine ⟨_, hsub1573, ?_⟩
      refine AX.seq ?_
      refine AX.region ?_
      refine AO.p rfl (p_move rfl) ?_
      obtain ⟨b1574, h1575, hd1576⟩ := bnd_some hd1204
      refine AO.c rfl (o_call (vs := [.slice p1199 xs1201.length c1200]) rfl Try.call61 (W_impl_areDifferent fu G1572 p1199 c1200 xs1201 (S1571.oview (k := 0) rfl Bo1198 (ints_len1 rfl)) b1574 h1575)) ?_
      refine AO.p rfl (p_assign rfl) ?_
      refine AO.p rfl (p_assign rfl) ?_
      refine AO.nil ?_
      refine AX.ret ?_
      obtain ⟨rfl, rfl⟩ := Prod.mk.inj (some_inj hd1576)
      exact ⟨.inr rfl, _, res2 rfl (rv_tmp rfl) (rv_tmp rfl), rfl, (flat_t2 (flatB_ok rfl) (flatB_ok rfl)), S1571.hold⟩

end Go.Proofs.Ytakfkiahhfdjfaa
