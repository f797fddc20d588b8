/-
  The program computes that, printed by a program. No condition.
-/
import Derived.Test.YtakfkiahhfdjfaaDG
import Derived.Test.YtakfkiahhfdjfaaWD
import Derived.Test.YtakfkiahhfdjfaaProg
import Derived.KernelRfl
namespace Go.Proofs.Ytakfkiahhfdjfaa
open Go Go.RowKit Am
set_option linter.unusedVariables false
set_option linter.unusedSimpArgs false
set_option maxRecDepth 20000
set_option maxHeartbeats 4000000 in
theorem W_spec_l03Adder (fu : Nat) (H : AHeap) (a0 : Int) (p_a1 : Option Addr) (c_a1 : Nat) (T_a1 : Tb) (a1 : List (List Int)) (t_a1 : trows T_a1 = a1) (v_a1 : Vw H p_a1 a1.length c_a1 (tcells T_a1)) (w_a1 : TVw H T_a1) (p_a2 : Option Addr) (c_a2 : Nat) (a2 : List Int) (v_a2 : Vw H p_a2 a2.length c_a2 (ints a2)) (r0 : Bool) (hd : D_spec_l03Adder fu a0 a1 a2 = some r0) : ACall Try.prog 76 [.int .i64 a0, .slice p_a1 a1.length c_a1, .slice p_a2 a2.length c_a2] H (.bool r0) H := by
  refine ACall.bodyP (N := 81) [(0, .int .i64 a0), (1, .slice p_a1 a1.length c_a1), (2, .slice p_a2 a2.length c_a2)] Try.func76 rfl rfl rfl rfl ?_
  unfold D_spec_l03Adder at hd
  have S0 : St [] H H [] := St.nil H
  refine AX.seq ?_
  refine AX.region ?_
  refine AO.p rfl (p_assign rfl) ?_
  refine AO.nil ?_
  refine AX.seq ?_
  refine DR.startS [false, false, false, false, false, false] mix (by kernel_rfl) (fun hst => ?_)
  refine DR.p rfl rfl (p_move rfl) ?_
  obtain ⟨k100, hd101⟩ := chk_some hd
  obtain ⟨G102, i103, hii103, hHG102, S104⟩ := S0.new (AObj.row false (bls (List.replicate a0.toNat false)))
  refine DR.a rfl rfl hii103 hHG102 (a_make1 (v := .bool false) (by_ := 1) Try.underlying91 Try.typeInfo4 Try.sizeOf4 Try.zeroValue4 rfl rfl rfl rfl rfl rfl k100 bls_rep) ?_
  refine DR.p rfl rfl (p_move rfl) ?_
  obtain ⟨k106, hd107⟩ := chk_some hd101
  obtain ⟨G108, i109, hii109, hHG108, S110⟩ := S104.new (AObj.row false (bls (List.replicate a0.toNat false)))
  refine DR.a rfl rfl hii109 hHG108 (a_make1 (v := .bool false) (by_ := 1) Try.underlying91 Try.typeInfo4 Try.sizeOf4 Try.zeroValue4 rfl rfl rfl rfl rfl rfl k106 bls_rep) ?_
  refine DR.p rfl rfl (p_assign rfl) ?_
  refine DR.p rfl rfl (p_assign rfl) ?_
  refine DR.nil 6 [] hst (by kernel_rfl) trivial ?_
  refine AX.seq ?_
  refine AX.region ?_
  refine AO.p rfl (p_move rfl) ?_
  obtain ⟨k112, hd113⟩ := chk_some hd107
  refine AO.p rfl (s_indexV (q := 0) Try.underlying91 Try.sizeOf4 rfl rfl rfl k112 rfl) ?_
  obtain ⟨G114, hHG114, S115⟩ := S110.set (k := 1) (i := i103) rfl (AObj.row false (bls ((List.replicate a0.toNat false).set 0 true)))
  refine AO.s (s_store Try.sizeOf4 rfl rfl rfl (S110.get (k := 1) rfl) (lt_len ((bls_length _).trans len_rep) (inR_lt k112)) ((congrArg (fun l => List.set _ _ (AObj.row false l)) (bls_set _ _ _)).trans hHG114)) ?_
  refine AO.nil ?_
  refine AX.seq ?_
  refine AX.seq ?_
  refine AX.region ?_
  refine AO.p rfl (p_assign rfl) ?_
  refine AO.nil ?_
  obtain ⟨r416, hl417, hd418⟩ := bnd_some hd113
  refine AX.cutS (fun t' H' => .inl () = r416 ∧ St [] H H' [] ∧ Am.Sub [] t') ?_ ?_
  · refine AX.block ?_
    refine AX.loopF (fun s' t' H' => ∃ (bs316 : List Bool) (bs318 : List Bool) (x319 : Int), (bs316, bs318, x319) = s' ∧ St [] H H' [[(i103, AObj.row false (bls bs316))], [(i109, AObj.row false (bls bs318))]] ∧ bs316.length = a0.toNat ∧ bs318.length = a0.toNat ∧ Am.Sub [(0, .int .i64 a0), (1, .slice p_a1 a1.length c_a1), (2, .slice p_a2 a2.length c_a2), (7, .slice (some (Addr.mk i103 0 none)) a0.toNat a0.toNat), (8, .slice (some (Addr.mk i109 0 none)) a0.toNat a0.toNat), (9, .int .i64 x319)] t') hl417 ?_ ?_
    · skip
      have S419 := S115.front 0 rfl
      have S420 := S419.front 1 rfl
      exact ⟨((List.replicate a0.toNat false).set 0 true), (List.replicate a0.toNat false), 0, rfl, S420, (len_set len_rep), len_rep, Sub.cons' rfl rfl (Sub.cons' rfl rfl (Sub.cons' rfl rfl (Sub.cons' rfl rfl (Sub.cons' rfl rfl (Sub.cons' rfl rfl (Sub.nil _))))))⟩
    · rintro n421 _ t' G425 ⟨bs316, bs318, x319, rfl, S424, lbs316, lbs318, hsub426⟩ o427 ho422 hk423
      refine AX.sub hsub426 ?_
      unfold D_spec_l03Adder_s0 at ho422
      refine AX.seq ?_
      refine AX.seq ?_
      refine AX.region ?_
      refine AO.p rfl (p_move rfl) ?_
      refine AO.p rfl (p_move rfl) ?_
      refine AO.p rfl (p_len_slice rfl Try.underlying34) ?_
      refine AO.p rfl (p_lss rfl rfl) ?_
      refine AO.nil ?_
      refine AX.cond rfl (fun c428 => ?_) (fun c428 => ?_)
      · have hd429 := bif_t c428 ho422
        refine AX.skip ?_
        refine AX.seq ?_
        refine AX.block ?_
        refine AX.seq ?_
        refine DR.startS [false, false, false, false, false, false, false, false, false, false, false, false, false, false, false, false, false, false, false, false, false, false, false, false, false, false, false, false] mix (by kernel_rfl) (fun hst => ?_)
        refine DR.p rfl rfl (p_move rfl) ?_
        refine DR.p rfl rfl (p_move rfl) ?_
        obtain ⟨k430, hd431⟩ := chk_some hd429
        obtain ⟨p432, c433, e434, f435⟩ := tget t_a1 (lt_len rfl (inR_lt k430))
        refine DR.p rfl rfl (s_indexV (q := off p_a1 + x319.toNat) Try.underlying22 Try.sizeOf34 rfl ((S424.view v_a1).p f435) rfl k430 (o1 _ _)) ?_
        refine DR.r rfl rfl (r_load rfl Try.isAgg34) (one_read ((S424.view v_a1).get _ _ f435) (TVw.at (S424.tview w_a1) e434).inn.bel) ?_
        obtain ⟨k436, hd437⟩ := chk_some hd431
        refine DR.p rfl rfl (s_indexV (q := off p432 + 0) Try.underlying34 Try.sizeOf2 rfl ((TVw.at (S424.tview w_a1) e434).p (ints_get (lt_len rfl (inR_lt k436)))) rfl k436 (o1 _ _)) ?_
        refine DR.r rfl rfl (r_load rfl Try.isAgg2) (one_read ((TVw.at (S424.tview w_a1) e434).get _ _ (ints_get (lt_len rfl (inR_lt k436)))) (.of_flat0 rfl)) ?_
        refine DR.p rfl rfl (p_move rfl) ?_
        refine DR.p rfl rfl (p_move rfl) ?_
        obtain ⟨k438, hd439⟩ := chk_some hd437
        refine DR.p rfl rfl (s_indexV (q := off p_a2 + x319.toNat) Try.underlying34 Try.sizeOf2 rfl ((S424.view v_a2).p (ints_get (lt_len rfl (inR_lt k438)))) rfl k438 (o1 _ _)) ?_
        refine DR.r rfl rfl (r_load rfl Try.isAgg2) (one_read ((S424.view v_a2).get _ _ (ints_get (lt_len rfl (inR_lt k438)))) (.of_flat0 rfl)) ?_
        obtain ⟨k440, hd441⟩ := chk_some hd439
        refine DR.p rfl rfl (p_addE rfl rfl k440) ?_
        refine DR.p rfl rfl (p_move rfl) ?_
        obtain ⟨k442, hd443⟩ := chk_some hd441
        refine DR.p rfl rfl (p_remE rfl rfl k442) ?_
        refine DR.p rfl rfl (p_move rfl) ?_
        refine DR.p rfl rfl (p_move rfl) ?_
        obtain ⟨k444, hd445⟩ := chk_some hd443
        obtain ⟨p446, c447, e448, f449⟩ := tget t_a1 (lt_len rfl (inR_lt k444))
        refine DR.p rfl rfl (s_indexV (q := off p_a1 + x319.toNat) Try.underlying22 Try.sizeOf34 rfl ((S424.view v_a1).p f449) rfl k444 (o1 _ _)) ?_
        refine DR.r rfl rfl (r_load rfl Try.isAgg34) (one_read ((S424.view v_a1).get _ _ f449) (TVw.at (S424.tview w_a1) e448).inn.bel) ?_
        obtain ⟨k450, hd451⟩ := chk_some hd445
        refine DR.p rfl rfl (s_indexV (q := off p446 + 1) Try.underlying34 Try.sizeOf2 rfl ((TVw.at (S424.tview w_a1) e448).p (ints_get (lt_len rfl (inR_lt k450)))) rfl k450 (o1 _ _)) ?_
        refine DR.r rfl rfl (r_load rfl Try.isAgg2) (one_read ((TVw.at (S424.tview w_a1) e448).get _ _ (ints_get (lt_len rfl (inR_lt k450)))) (.of_flat0 rfl)) ?_
        refine DR.p rfl rfl (p_move rfl) ?_
        refine DR.p rfl rfl (p_move rfl) ?_
        obtain ⟨k452, hd453⟩ := chk_some hd451
        refine DR.p rfl rfl (s_indexV (q := off p_a2 + x319.toNat) Try.underlying34 Try.sizeOf2 rfl ((S424.view v_a2).p (ints_get (lt_len rfl (inR_lt k452)))) rfl k452 (o1 _ _)) ?_
        refine DR.r rfl rfl (r_load rfl Try.isAgg2) (one_read ((S424.view v_a2).get _ _ (ints_get (lt_len rfl (inR_lt k452)))) (.of_flat0 rfl)) ?_
        obtain ⟨k454, hd455⟩ := chk_some hd453
        refine DR.p rfl rfl (p_addE rfl rfl k454) ?_
        refine DR.p rfl rfl (p_move rfl) ?_
        obtain ⟨k456, hd457⟩ := chk_some hd455
        refine DR.p rfl rfl (p_remE rfl rfl k456) ?_
        refine DR.p rfl rfl (p_assign rfl) ?_
        refine DR.p rfl rfl (p_assign rfl) ?_
        refine DR.nil 28 [] hst (by kernel_rfl) trivial ?_
        refine AX.seq ?_
        obtain ⟨r475, hb476, hd477⟩ := bnd_some hd457
        refine AX.cut (fun t' H' => ∃ (b474 : Bool), b474 = r475 ∧ St [] H H' [[(i103, AObj.row false (bls bs316))], [(i109, AObj.row false (bls bs318))]] ∧ Am.Sub [(0, .int .i64 a0), (1, .slice p_a1 a1.length c_a1), (2, .slice p_a2 a2.length c_a2), (7, .slice (some (Addr.mk i103 0 none)) a0.toNat a0.toNat), (8, .slice (some (Addr.mk i109 0 none)) a0.toNat a0.toNat), (9, .int .i64 x319), (10, .int .i64 ((rd (rw_ a1 x319.toNat) 0 + (rd a2 x319.toNat)).tmod a0)), (11, .int .i64 ((rd (rw_ a1 x319.toNat) 1 + (rd a2 x319.toNat)).tmod a0)), (68, .bool b474)] t') ?_ ?_
        · skip
          refine AX.region ?_
          refine AO.p rfl (p_move rfl) ?_
          refine AO.p rfl (p_move rfl) ?_
          obtain ⟨k478, hd479⟩ := chk_some hb476
          refine AO.p rfl (s_indexV (q := ((rd (rw_ a1 x319.toNat) 0 + (rd a2 x319.toNat)).tmod a0).toNat) Try.underlying91 Try.sizeOf4 rfl rfl rfl k478 (z1 _)) ?_
          refine AO.c rfl (s_load Try.isAgg4 rfl (row_cell (S424.get (k := 0) rfl) (bls_get (lt_len lbs316 (inR_lt k478))))) ?_
          refine AO.p rfl (p_move rfl) ?_
          refine AO.cases (d := 54) rfl (fun c480 => ?_) (fun c480 => ?_)
          · have hd481 := bif_t c480 hd479
            refine AO.gn rfl rfl rfl ?_
            refine AO.gn rfl rfl rfl ?_
            refine AO.gn rfl rfl rfl ?_
            refine AO.gn rfl rfl rfl ?_
            refine AO.p rfl (p_pickT rfl rfl) ?_
            refine AO.p rfl (p_move rfl) ?_
            refine AO.gn rfl rfl rfl ?_
            refine AO.gn rfl rfl rfl ?_
            refine AO.gn rfl rfl rfl ?_
            refine AO.gn rfl rfl rfl ?_
            refine AO.gn rfl rfl rfl ?_
            refine AO.gn rfl rfl rfl ?_
            refine AO.gn rfl rfl rfl ?_
            refine AO.p rfl (p_pickT rfl rfl) ?_
            refine AO.nil ?_
            have S482 := S424.front 1 rfl
            have S483 := S482.front 1 rfl
            exact ⟨true, (some_inj hd481), S483, Sub.cons' rfl rfl (Sub.cons' rfl rfl (Sub.cons' rfl rfl (Sub.cons' rfl rfl (Sub.cons' rfl rfl (Sub.cons' rfl rfl (Sub.cons' rfl rfl (Sub.cons' rfl rfl (Sub.cons' rfl rfl (Sub.nil _)))))))))⟩
          · have hd484 := bif_f c480 hd479
            refine AO.gp rfl rfl rfl (p_move rfl) ?_
            refine AO.gp rfl rfl rfl (p_move rfl) ?_
            obtain ⟨k485, hd486⟩ := chk_some hd484
            refine AO.gp rfl rfl rfl (s_indexV (q := ((rd (rw_ a1 x319.toNat) 1 + (rd a2 x319.toNat)).tmod a0).toNat) Try.underlying91 Try.sizeOf4 rfl rfl rfl k485 (z1 _)) ?_
            refine AO.gc rfl rfl rfl (s_load Try.isAgg4 rfl (row_cell (S424.get (k := 0) rfl) (bls_get (lt_len lbs316 (inR_lt k485))))) ?_
            refine AO.p rfl (p_pickF rfl rfl) ?_
            refine AO.p rfl (p_move rfl) ?_
            refine AO.cases (d := 60) rfl (fun c487 => ?_) (fun c487 => ?_)
            · have hd488 := bif_t c487 hd486
              refine AO.gn rfl rfl rfl ?_
              refine AO.gn rfl rfl rfl ?_
              refine AO.gn rfl rfl rfl ?_
              refine AO.gn rfl rfl rfl ?_
              refine AO.gn rfl rfl rfl ?_
              refine AO.gn rfl rfl rfl ?_
              refine AO.gn rfl rfl rfl ?_
              refine AO.p rfl (p_pickT rfl rfl) ?_
              refine AO.nil ?_
              have S489 := S424.front 1 rfl
              have S490 := S489.front 1 rfl
              exact ⟨true, (some_inj hd488), S490, Sub.cons' rfl rfl (Sub.cons' rfl rfl (Sub.cons' rfl rfl (Sub.cons' rfl rfl (Sub.cons' rfl rfl (Sub.cons' rfl rfl (Sub.cons' rfl rfl (Sub.cons' rfl rfl (Sub.cons' rfl rfl (Sub.nil _)))))))))⟩
            · have hd491 := bif_f c487 hd486
              refine AO.gp rfl rfl rfl (p_move rfl) ?_
              refine AO.gp rfl rfl rfl (p_move rfl) ?_
              refine AO.gp rfl rfl rfl (p_move rfl) ?_
              obtain ⟨k492, hd493⟩ := chk_some hd491
              refine AO.gp rfl rfl rfl (s_indexV (q := off p_a2 + x319.toNat) Try.underlying34 Try.sizeOf2 rfl ((S424.view v_a2).p (ints_get (lt_len rfl (inR_lt k492)))) rfl k492 (o1 _ _)) ?_
              refine AO.gc rfl rfl rfl (s_load Try.isAgg2 rfl ((S424.view v_a2).get _ _ (ints_get (lt_len rfl (inR_lt k492))))) ?_
              obtain ⟨k494, hd495⟩ := chk_some hd493
              refine AO.gp rfl rfl rfl (s_indexV (q := (rd a2 x319.toNat).toNat) Try.underlying91 Try.sizeOf4 rfl rfl rfl k494 (z1 _)) ?_
              refine AO.gc rfl rfl rfl (s_load Try.isAgg4 rfl (row_cell (S424.get (k := 1) rfl) (bls_get (lt_len lbs318 (inR_lt k494))))) ?_
              refine AO.p rfl (p_pickF rfl rfl) ?_
              refine AO.nil ?_
              have S496 := S424.front 1 rfl
              have S497 := S496.front 1 rfl
              exact ⟨(rdb bs318 ((rd a2 x319.toNat).toNat)), (some_inj hd495), S497, Sub.cons' rfl rfl (Sub.cons' rfl rfl (Sub.cons' rfl rfl (Sub.cons' rfl rfl (Sub.cons' rfl rfl (Sub.cons' rfl rfl (Sub.cons' rfl rfl (Sub.cons' rfl rfl (Sub.cons' rfl rfl (Sub.nil _)))))))))⟩
        · rintro t' G499 ⟨b474, rfl, S498, hsub500⟩
          refine AX.sub hsub500 ?_
          refine AX.cond rfl (fun c501 => ?_) (fun c501 => ?_)
          · have hd502 := bif_t c501 hd477
            refine AX.seq ?_
            refine AX.region ?_
            refine AO.p rfl (p_assign rfl) ?_
            refine AO.nil ?_
            refine AX.ret ?_
            obtain rfl := some_inj hd502
            have z503 : _ = r416 := hk423
            subst z503
            obtain rfl := some_inj hd418
            exact ⟨.inr rfl, _, res1 rfl (rv_tmp rfl), rfl, (flatB_ok rfl), S498.hold⟩
          · have hd504 := bif_f c501 hd477
            refine AX.skip ?_
            refine AX.seq ?_
            refine AX.region ?_
            refine AO.p rfl (p_move rfl) ?_
            refine AO.p rfl (p_move rfl) ?_
            obtain ⟨k505, hd506⟩ := chk_some hd504
            refine AO.p rfl (s_indexV (q := ((rd (rw_ a1 x319.toNat) 0 + (rd a2 x319.toNat)).tmod a0).toNat) Try.underlying91 Try.sizeOf4 rfl rfl rfl k505 (z1 _)) ?_
            obtain ⟨G507, hHG507, S508⟩ := S498.set (k := 0) (i := i103) rfl (AObj.row false (bls (bs316.set (((rd (rw_ a1 x319.toNat) 0 + (rd a2 x319.toNat)).tmod a0).toNat) true)))
            refine AO.s (s_store Try.sizeOf4 rfl rfl rfl (S498.get (k := 0) rfl) (lt_len ((bls_length _).trans lbs316) (inR_lt k505)) ((congrArg (fun l => List.set _ _ (AObj.row false l)) (bls_set _ _ _)).trans hHG507)) ?_
            refine AO.nil ?_
            refine AX.seq ?_
            refine AX.region ?_
            refine AO.p rfl (p_move rfl) ?_
            refine AO.p rfl (p_move rfl) ?_
            obtain ⟨k509, hd510⟩ := chk_some hd506
            refine AO.p rfl (s_indexV (q := ((rd (rw_ a1 x319.toNat) 1 + (rd a2 x319.toNat)).tmod a0).toNat) Try.underlying91 Try.sizeOf4 rfl rfl rfl k509 (z1 _)) ?_
            obtain ⟨G511, hHG511, S512⟩ := S508.set (k := 0) (i := i103) rfl (AObj.row false (bls ((bs316.set (((rd (rw_ a1 x319.toNat) 0 + (rd a2 x319.toNat)).tmod a0).toNat) true).set (((rd (rw_ a1 x319.toNat) 1 + (rd a2 x319.toNat)).tmod a0).toNat) true)))
            refine AO.s (s_store Try.sizeOf4 rfl rfl rfl (S508.get (k := 0) rfl) (lt_len ((bls_length _).trans (len_set lbs316)) (inR_lt k509)) ((congrArg (fun l => List.set _ _ (AObj.row false l)) (bls_set _ _ _)).trans hHG511)) ?_
            refine AO.nil ?_
            refine AX.region ?_
            refine AO.p rfl (p_move rfl) ?_
            refine AO.p rfl (p_move rfl) ?_
            refine AO.p rfl (p_move rfl) ?_
            obtain ⟨k513, hd514⟩ := chk_some hd510
            refine AO.p rfl (s_indexV (q := off p_a2 + x319.toNat) Try.underlying34 Try.sizeOf2 rfl ((S512.view v_a2).p (ints_get (lt_len rfl (inR_lt k513)))) rfl k513 (o1 _ _)) ?_
            refine AO.c rfl (s_load Try.isAgg2 rfl ((S512.view v_a2).get _ _ (ints_get (lt_len rfl (inR_lt k513))))) ?_
            obtain ⟨k515, hd516⟩ := chk_some hd514
            refine AO.p rfl (s_indexV (q := (rd a2 x319.toNat).toNat) Try.underlying91 Try.sizeOf4 rfl rfl rfl k515 (z1 _)) ?_
            obtain ⟨G517, hHG517, S518⟩ := S512.set (k := 1) (i := i109) rfl (AObj.row false (bls (bs318.set ((rd a2 x319.toNat).toNat) true)))
            refine AO.s (s_store Try.sizeOf4 rfl rfl rfl (S512.get (k := 1) rfl) (lt_len ((bls_length _).trans lbs318) (inR_lt k515)) ((congrArg (fun l => List.set _ _ (AObj.row false l)) (bls_set _ _ _)).trans hHG517)) ?_
            refine AO.nil ?_
            refine AX.region ?_
            refine AO.p rfl (p_move rfl) ?_
            obtain ⟨k519, hd520⟩ := chk_some hd516
            refine AO.p rfl (p_addE rfl rfl k519) ?_
            refine AO.p rfl (p_assign rfl) ?_
            refine AO.nil ?_
            obtain rfl := some_inj hd520
            have S522 := S518.front 1 rfl
            have S523 := S522.front 1 rfl
            exact ⟨(((bs316.set (((rd (rw_ a1 x319.toNat) 0 + (rd a2 x319.toNat)).tmod a0).toNat) true).set (((rd (rw_ a1 x319.toNat) 1 + (rd a2 x319.toNat)).tmod a0).toNat) true), (bs318.set ((rd a2 x319.toNat).toNat) true), x319 + 1), hk423, ((bs316.set (((rd (rw_ a1 x319.toNat) 0 + (rd a2 x319.toNat)).tmod a0).toNat) true).set (((rd (rw_ a1 x319.toNat) 1 + (rd a2 x319.toNat)).tmod a0).toNat) true), (bs318.set ((rd a2 x319.toNat).toNat) true), (x319 + 1), rfl, S523, (len_set (len_set lbs316)), (len_set lbs318), Sub.cons' rfl rfl (Sub.cons' rfl rfl (Sub.cons' rfl rfl (Sub.cons' rfl rfl (Sub.cons' rfl rfl (Sub.cons' rfl rfl (Sub.nil _))))))⟩
      · have hd524 := bif_f c428 ho422
        refine AX.exit ?_
        obtain rfl := some_inj hd524
        have S525 := S424.keep 0
        exact ⟨hk423, S525, Sub.nil _⟩
  · rintro t' G527 ⟨rfl, S526, hsub528⟩
    refine ⟨_, hsub528, ?_⟩
    refine AX.seq ?_
    refine AX.region ?_
    refine AO.p rfl (p_assign rfl) ?_
    refine AO.nil ?_
    refine AX.ret ?_
    obtain rfl := some_inj hd418
    exact ⟨.inr rfl, _, res1 rfl (rv_tmp rfl), rfl, (flatB_ok rfl), S526.hold⟩

set_option maxHeartbeats 4000000 in
theorem W_spec_IsAdder (fu : Nat) (H : AHeap) (a0 : Int) (p_a1 : Option Addr) (c_a1 : Nat) (T_a1 : Tb) (a1 : List (List Int)) (t_a1 : trows T_a1 = a1) (v_a1 : Vw H p_a1 a1.length c_a1 (tcells T_a1)) (w_a1 : TVw H T_a1) (p_a2 : Option Addr) (c_a2 : Nat) (a2 : List Int) (v_a2 : Vw H p_a2 a2.length c_a2 (ints a2)) (r0 : Bool) (r1 : Int) (hd : D_spec_IsAdder fu a0 a1 a2 = some (r0, r1)) : ACall Try.prog 30 [.int .i64 a0, .slice p_a1 a1.length c_a1, .slice p_a2 a2.length c_a2] H (.tuple #[.bool r0, .int .i64 r1]) H := by
  refine ACall.bodyP (N := 41) [(0, .int .i64 a0), (1, .slice p_a1 a1.length c_a1), (2, .slice p_a2 a2.length c_a2)] Try.func30 rfl rfl rfl rfl ?_
  unfold D_spec_IsAdder at hd
  have S0 : St [] H H [] := St.nil H
  refine AX.seq ?_
  refine AX.region ?_
  refine AO.p rfl (p_assign rfl) ?_
  refine AO.p rfl (p_assign rfl) ?_
  refine AO.nil ?_
  refine AX.seq ?_
  refine AX.region ?_
  refine AO.p rfl (p_move rfl) ?_
  refine AO.p rfl (p_move rfl) ?_
  obtain ⟨x100, h101, hd102⟩ := bnd_some hd
  refine AO.c rfl (o_call (vs := [.int .i64 a0, .slice p_a1 a1.length c_a1]) rfl Try.call52 (W_spec_l03Code fu H a0 p_a1 c_a1 T_a1 a1 t_a1 (S0.view v_a1) (S0.tview w_a1) x100 h101)) ?_
  refine AO.p rfl (p_assign rfl) ?_
  refine AO.nil ?_
  refine AX.seq ?_
  refine AX.seq ?_
  refine AX.region ?_
  refine AO.p rfl (p_move rfl) ?_
  refine AO.p rfl (p_neq rfl rfl) ?_
  refine AO.nil ?_
  obtain ⟨r206, hb207, hd208⟩ := bnd_some hd102
  refine AX.cutS (fun t' H' => .inl () = r206 ∧ St [] H H' [] ∧ Am.Sub [(0, .int .i64 a0), (1, .slice p_a1 a1.length c_a1), (2, .slice p_a2 a2.length c_a2), (8, .int .i64 x100)] t') ?_ ?_
  · skip
    refine AX.cond rfl (fun c209 => ?_) (fun c209 => ?_)
    · have hd210 := bif_t c209 hb207
      refine AX.seq ?_
      refine AX.seq ?_
      refine AX.region ?_
      refine AO.p rfl (p_move rfl) ?_
      refine AO.p rfl (p_len_slice rfl Try.underlying34) ?_
      refine AO.p rfl (p_move rfl) ?_
      refine AO.p rfl (p_len_slice rfl Try.underlying22) ?_
      refine AO.p rfl (p_neq rfl rfl) ?_
      refine AO.nil ?_
      refine AX.cond rfl (fun c211 => ?_) (fun c211 => ?_)
      · have hd212 := bif_t c211 hd210
        refine AX.seq ?_
        refine AX.region ?_
        refine AO.p rfl (p_assign rfl) ?_
        refine AO.p rfl (p_assign rfl) ?_
        refine AO.nil ?_
        refine AX.ret ?_
        have z213 : _ = r206 := some_inj hd212
        subst z213
        obtain ⟨rfl, rfl⟩ := Prod.mk.inj (some_inj hd208)
        exact ⟨.inr rfl, _, res2 rfl (rv_tmp rfl) (rv_tmp rfl), rfl, (flat_t2 (flatB_ok rfl) (flatB_ok rfl)), S0.hold⟩
      · have hd215 := bif_f c211 hd210
        refine AX.skip ?_
        refine AX.seq ?_
        refine AX.region ?_
        refine AO.p rfl (p_assign rfl) ?_
        refine AO.nil ?_
        obtain ⟨r281, hl282, hd283⟩ := bnd_some hd215
        refine AX.cutS (fun t' H' => .inl () = r281 ∧ St [] H H' [] ∧ Am.Sub [(0, .int .i64 a0), (1, .slice p_a1 a1.length c_a1), (2, .slice p_a2 a2.length c_a2), (8, .int .i64 x100)] t') ?_ ?_
        · refine AX.block ?_
          refine AX.loopF (fun s' t' H' => ∃ (x259 : Int), x259 = s' ∧ St [] H H' [] ∧ Am.Sub [(0, .int .i64 a0), (1, .slice p_a1 a1.length c_a1), (2, .slice p_a2 a2.length c_a2), (8, .int .i64 x100), (9, .int .i64 x259)] t') hl282 ?_ ?_
          · skip
            exact ⟨0, rfl, S0, Sub.cons' rfl rfl (Sub.cons' rfl rfl (Sub.cons' rfl rfl (Sub.cons' rfl rfl (Sub.cons' rfl rfl (Sub.nil _)))))⟩
          · rintro n284 _ t' G288 ⟨x259, rfl, S287, hsub289⟩ o290 ho285 hk286
            refine AX.sub hsub289 ?_
            unfold D_spec_IsAdder_s0 at ho285
            refine AX.seq ?_
            refine AX.seq ?_
            refine AX.region ?_
            refine AO.p rfl (p_move rfl) ?_
            refine AO.p rfl (p_move rfl) ?_
            refine AO.p rfl (p_len_slice rfl Try.underlying34) ?_
            refine AO.p rfl (p_lss rfl rfl) ?_
            refine AO.nil ?_
            refine AX.cond rfl (fun c291 => ?_) (fun c291 => ?_)
            · have hd292 := bif_t c291 ho285
              refine AX.skip ?_
              refine AX.seq ?_
              refine AX.block ?_
              refine AX.seq ?_
              refine AX.region ?_
              refine AO.p rfl (p_move rfl) ?_
              refine AO.p rfl (p_move rfl) ?_
              obtain ⟨k293, hd294⟩ := chk_some hd292
              refine AO.p rfl (s_indexV (q := off p_a2 + x259.toNat) Try.underlying34 Try.sizeOf2 rfl ((S287.view v_a2).p (ints_get (lt_len rfl (inR_lt k293)))) rfl k293 (o1 _ _)) ?_
              refine AO.c rfl (s_load Try.isAgg2 rfl ((S287.view v_a2).get _ _ (ints_get (lt_len rfl (inR_lt k293))))) ?_
              refine AO.p rfl (p_move rfl) ?_
              obtain ⟨k295, hd296⟩ := chk_some hd294
              refine AO.p rfl (p_subE rfl rfl k295) ?_
              obtain ⟨b297, h298, hd299⟩ := bnd_some hd296
              refine AO.c rfl (o_call (vs := [.int .i64 (rd a2 x259.toNat), .int .i64 1, .int .i64 (a0 - 1)]) rfl Try.call75 (W_spec_l01In fu G288 (rd a2 x259.toNat) 1 (a0 - 1) b297 h298)) ?_
              refine AO.p rfl (p_not rfl) ?_
              refine AO.nil ?_
              refine AX.cond rfl (fun c301 => ?_) (fun c301 => ?_)
              · have hd302 := bif_t c301 hd299
                refine AX.seq ?_
                refine AX.region ?_
                refine AO.p rfl (p_assign rfl) ?_
                refine AO.p rfl (p_assign rfl) ?_
                refine AO.nil ?_
                refine AX.ret ?_
                obtain rfl := some_inj hd302
                have z303 : _ = r281 := hk286
                subst z303
                have z304 : _ = r206 := some_inj hd283
                subst z304
                obtain ⟨rfl, rfl⟩ := Prod.mk.inj (some_inj hd208)
                exact ⟨.inr rfl, _, res2 rfl (rv_tmp rfl) (rv_tmp rfl), rfl, (flat_t2 (flatB_ok rfl) (flatB_ok rfl)), S287.hold⟩
              · have hd306 := bif_f c301 hd299
                refine AX.skip ?_
                refine AX.region ?_
                refine AO.p rfl (p_move rfl) ?_
                obtain ⟨k307, hd308⟩ := chk_some hd306
                refine AO.p rfl (p_addE rfl rfl k307) ?_
                refine AO.p rfl (p_assign rfl) ?_
                refine AO.nil ?_
                obtain rfl := some_inj hd308
                exact ⟨x259 + 1, hk286, (x259 + 1), rfl, S287, Sub.cons' rfl rfl (Sub.cons' rfl rfl (Sub.cons' rfl rfl (Sub.cons' rfl rfl (Sub.cons' rfl rfl (Sub.nil _)))))⟩
            · have hd310 := bif_f c291 ho285
              refine AX.exit ?_
              obtain rfl := some_inj hd310
              exact ⟨hk286, S287, Sub.cons' rfl rfl (Sub.cons' rfl rfl (Sub.cons' rfl rfl (Sub.cons' rfl rfl (Sub.nil _))))⟩
        · rintro t' G312 ⟨rfl, S311, hsub313⟩
          refine ⟨_, hsub313, ?_⟩
          exact ⟨(some_inj hd283), S311, Sub.cons' rfl rfl (Sub.cons' rfl rfl (Sub.cons' rfl rfl (Sub.cons' rfl rfl (Sub.nil _))))⟩
    · have hd315 := bif_f c209 hb207
      refine AX.skip ?_
      exact ⟨(some_inj hd315), S0, Sub.cons' rfl rfl (Sub.cons' rfl rfl (Sub.cons' rfl rfl (Sub.cons' rfl rfl (Sub.nil _))))⟩
  · rintro t' G317 ⟨rfl, S316, hsub318⟩
    refine ⟨_, hsub318, ?_⟩
    refine AX.seq ?_
    refine AX.seq ?_
    refine AX.region ?_
    refine AO.p rfl (p_move rfl) ?_
    refine AO.p rfl (p_neq rfl rfl) ?_
    refine AO.nil ?_
    refine AX.cond rfl (fun c319 => ?_) (fun c319 => ?_)
    · have hd320 := bif_t c319 hd208
      refine AX.seq ?_
      refine AX.region ?_
      refine AO.p rfl (p_move rfl) ?_
      refine AO.p rfl (p_assign rfl) ?_
      refine AO.p rfl (p_assign rfl) ?_
      refine AO.nil ?_
      refine AX.ret ?_
      obtain ⟨rfl, rfl⟩ := Prod.mk.inj (some_inj hd320)
      exact ⟨.inr rfl, _, res2 rfl (rv_tmp rfl) (rv_tmp rfl), rfl, (flat_t2 (flatB_ok rfl) (flatB_ok rfl)), S316.hold⟩
    · have hd322 := bif_f c319 hd208
      refine AX.skip ?_
      refine AX.seq ?_
      refine AX.region ?_
      refine AO.p rfl (p_move rfl) ?_
      refine AO.p rfl (p_move rfl) ?_
      refine AO.p rfl (p_move rfl) ?_
      obtain ⟨b323, h324, hd325⟩ := bnd_some hd322
      refine AO.c rfl (o_call (vs := [.int .i64 a0, .slice p_a1 a1.length c_a1, .slice p_a2 a2.length c_a2]) rfl Try.call76 (W_spec_l03Adder fu G317 a0 p_a1 c_a1 T_a1 a1 t_a1 (S316.view v_a1) (S316.tview w_a1) p_a2 c_a2 a2 (S316.view v_a2) b323 h324)) ?_
      refine AO.p rfl (p_assign rfl) ?_
      refine AO.p rfl (p_assign rfl) ?_
      refine AO.nil ?_
      refine AX.ret ?_
      obtain ⟨rfl, rfl⟩ := Prod.mk.inj (some_inj hd325)
      exact ⟨.inr rfl, _, res2 rfl (rv_tmp rfl) (rv_tmp rfl), rfl, (flat_t2 (flatB_ok rfl) (flatB_ok rfl)), S316.hold⟩

set_option maxHeartbeats 4000000 in
theorem W_impl_IsAdder_1_1 (fu : Nat) (H : AHeap) (a0 : Int) (i_b0 : Nat) (ro_b0 : Bool) (b0_0 : Int) (o_b0 : hget H i_b0 = .row ro_b0 ([.int .i64 b0_0])) (r0 : Bool) (hd : D_impl_IsAdder_1_1 fu a0 b0_0 = some r0) : ACall Try.prog 79 [.int .i64 a0, .pointer (some ⟨i_b0, 0, none⟩)] H (.bool r0) H := by
  refine ACall.bodyP (N := 9) [(0, .int .i64 a0), (1, .pointer (some ⟨i_b0, 0, none⟩))] Try.func79 rfl rfl rfl rfl ?_
  unfold D_impl_IsAdder_1_1 at hd
  have S0 : St [] H H [] := St.nil H
  refine AX.seq ?_
  refine AX.region ?_
  refine AO.p rfl (p_assign rfl) ?_
  refine AO.nil ?_
  refine AX.seq ?_
  refine AX.region ?_
  refine AO.p rfl (p_move rfl) ?_
  refine AO.c rfl (s_load Try.isAgg2 rfl (row_cell (S0.old o_b0 (by simp)) rfl)) ?_
  obtain ⟨k100, hd101⟩ := chk_some hd
  refine AO.p rfl (p_subE rfl rfl k100) ?_
  obtain ⟨b102, h103, hd104⟩ := bnd_some hd101
  refine AO.c rfl (o_call (vs := [.int .i64 a0, .int .i64 1, .int .i64 (b0_0 - 1)]) rfl Try.call80 (W_impl_between fu H a0 1 (b0_0 - 1) b102 h103)) ?_
  refine AO.p rfl (p_not rfl) ?_
  refine AO.p rfl (p_assign rfl) ?_
  refine AO.nil ?_
  refine AX.ret ?_
  obtain rfl := some_inj hd104
  exact ⟨.inr rfl, _, res1 rfl (rv_tmp rfl), rfl, (flatB_ok rfl), S0.hold⟩

set_option maxHeartbeats 4000000 in
theorem W_impl_IsAdder_1 (fu : Nat) (H : AHeap) (i_b0 : Nat) (ro_b0 : Bool) (p_b0_0 : Option Addr) (c_b0_0 : Nat) (b0_0 : List Int) (v_b0_0 : Vw H p_b0_0 b0_0.length c_b0_0 (ints b0_0)) (o_b0 : hget H i_b0 = .row ro_b0 ([.slice p_b0_0 b0_0.length c_b0_0])) (i_b1 : Nat) (ro_b1 : Bool) (p_b1_0 : Option Addr) (c_b1_0 : Nat) (T_b1_0 : Tb) (b1_0 : List (List Int)) (t_b1_0 : trows T_b1_0 = b1_0) (v_b1_0 : Vw H p_b1_0 b1_0.length c_b1_0 (tcells T_b1_0)) (w_b1_0 : TVw H T_b1_0) (o_b1 : hget H i_b1 = .row ro_b1 ([.slice p_b1_0 b1_0.length c_b1_0])) (i_b2 : Nat) (ro_b2 : Bool) (b2_0 : Int) (o_b2 : hget H i_b2 = .row ro_b2 ([.int .i64 b2_0])) (r0 : Bool) (hd : D_impl_IsAdder_1 fu b0_0 b1_0 b2_0 = some r0) : ACall Try.prog 77 [.pointer (some ⟨i_b0, 0, none⟩), .pointer (some ⟨i_b1, 0, none⟩), .pointer (some ⟨i_b2, 0, none⟩)] H (.bool r0) H := by
  refine ACall.bodyP (N := 15) [(0, .pointer (some ⟨i_b0, 0, none⟩)), (1, .pointer (some ⟨i_b1, 0, none⟩)), (2, .pointer (some ⟨i_b2, 0, none⟩))] Try.func77 rfl rfl rfl rfl ?_
  unfold D_impl_IsAdder_1 at hd
  have S0 : St [] H H [] := St.nil H
  refine AX.seq ?_
  refine AX.region ?_
  refine AO.p rfl (p_assign rfl) ?_
  refine AO.nil ?_
  obtain ⟨r108, hb109, hd110⟩ := bnd_some hd
  refine AX.cut (fun t' H' => ∃ (b107 : Bool), b107 = r108 ∧ St [] H H' [] ∧ Am.Sub [(3, .bool b107)] t') ?_ ?_
  · skip
    refine AX.region ?_
    refine AO.c rfl (s_load Try.isAgg34 rfl (row_cell (S0.old o_b0 (by simp)) rfl)) ?_
    refine AO.p rfl (p_len_slice rfl Try.underlying34) ?_
    refine AO.c rfl (s_load Try.isAgg22 rfl (row_cell (S0.old o_b1 (by simp)) rfl)) ?_
    refine AO.p rfl (p_len_slice rfl Try.underlying22) ?_
    refine AO.p rfl (p_eql rfl rfl) ?_
    refine AO.p rfl (p_move rfl) ?_
    refine AO.cases (d := 9) rfl (fun c111 => ?_) (fun c111 => ?_)
    · have hd112 := bif_t c111 hb109
      refine AO.gc rfl rfl rfl (s_load Try.isAgg34 rfl (row_cell (S0.old o_b0 (by simp)) rfl)) ?_
      refine AO.gp rfl rfl rfl (p_makeFunc (fs := []) (cs := [.pointer (some ⟨i_b2, 0, none⟩)]) rfl rfl) ?_
      obtain ⟨b113, h114, hd115⟩ := bnd_some hd112
      refine AO.gc rfl rfl rfl (o_call (vs := [.slice p_b0_0 b0_0.length c_b0_0, .func (.func 79) #[] #[.pointer (some ⟨i_b2, 0, none⟩)]]) rfl Try.call78 (W_slices_ContainsFunc_Sint64_int64 fu H p_b0_0 c_b0_0 b0_0 (S0.view v_b0_0) 79 #[] #[.pointer (some ⟨i_b2, 0, none⟩)] (fun x0' => D_impl_IsAdder_1_1 fu x0' b2_0) Try.call79 (fun G' hG x0' b' hb' => W_impl_IsAdder_1_1 fu G' x0' i_b2 _ b2_0 (hG.get (S0.old o_b2 (by simp))) b' hb') b113 h114)) ?_
      refine AO.gp rfl rfl rfl (p_not rfl) ?_
      refine AO.p rfl (p_pickT rfl rfl) ?_
      refine AO.p rfl (p_assign rfl) ?_
      refine AO.nil ?_
      exact ⟨(!b113), (some_inj hd115), S0, Sub.cons' rfl rfl (Sub.nil _)⟩
    · have hd117 := bif_f c111 hb109
      refine AO.gn rfl rfl rfl ?_
      refine AO.gn rfl rfl rfl ?_
      refine AO.gn rfl rfl rfl ?_
      refine AO.gn rfl rfl rfl ?_
      refine AO.p rfl (p_pickF rfl rfl) ?_
      refine AO.p rfl (p_assign rfl) ?_
      refine AO.nil ?_
      exact ⟨false, (some_inj hd117), S0, Sub.cons' rfl rfl (Sub.nil _)⟩
  · rintro t' G119 ⟨b107, rfl, S118, hsub120⟩
    refine AX.sub hsub120 ?_
    refine AX.ret ?_
    obtain rfl := some_inj hd110
    exact ⟨.inr rfl, _, res1 rfl (rv_tmp rfl), rfl, (flatB_ok rfl), S118.hold⟩

set_option maxHeartbeats 4000000 in
theorem W_impl_isAdder (fu : Nat) (H : AHeap) (a0 : Int) (p_a1 : Option Addr) (c_a1 : Nat) (T_a1 : Tb) (a1 : List (List Int)) (t_a1 : trows T_a1 = a1) (v_a1 : Vw H p_a1 a1.length c_a1 (tcells T_a1)) (w_a1 : TVw H T_a1) (p_a2 : Option Addr) (c_a2 : Nat) (a2 : List Int) (v_a2 : Vw H p_a2 a2.length c_a2 (ints a2)) (r0 : Bool) (hd : D_impl_isAdder fu a0 a1 a2 = some r0) : ACall Try.prog 81 [.int .i64 a0, .slice p_a1 a1.length c_a1, .slice p_a2 a2.length c_a2] H (.bool r0) H := by
  refine ACall.bodyP (N := 48) [(0, .int .i64 a0), (1, .slice p_a1 a1.length c_a1), (2, .slice p_a2 a2.length c_a2)] Try.func81 rfl rfl rfl rfl ?_
  unfold D_impl_isAdder at hd
  have S0 : St [] H H [] := St.nil H
  refine AX.seq ?_
  refine AX.region ?_
  refine AO.p rfl (p_assign rfl) ?_
  refine AO.nil ?_
  refine AX.seq ?_
  refine AX.region ?_
  obtain ⟨G100, i101, hii101, hHG100, S102⟩ := S0.new (AObj.row false (ints []))
  refine AO.c rfl (s_build0 (i := i101) Try.underlying34 Try.sizeOf2 hii101 hHG100) ?_
  refine AO.p rfl (p_assign rfl) ?_
  refine AO.nil ?_
  refine AX.seq ?_
  refine AX.seq ?_
  refine AX.region ?_
  refine AO.p rfl (p_move rfl) ?_
  refine AO.p rfl (p_len_slice rfl Try.underlying34) ?_
  refine AO.p rfl (p_move rfl) ?_
  refine AO.nil ?_
  obtain ⟨r257, hl258, hd259⟩ := bnd_some hd
  refine AX.cutS (fun t' H' => ∃ (xs256 : List Int) (p254 : Option Addr) (c255 : Nat), xs256 = r257 ∧ St [] H H' [oseg p254 (ints xs256)] ∧ Sb p254 (xs256.length) c255 1 ∧ Am.Sub [(2, .slice p_a2 a2.length c_a2), (7, .slice p254 xs256.length c255)] t') ?_ ?_
  · refine AX.block ?_
    refine AX.loopF (fun s' t' H' => ∃ (xs205 : List Int) (x206 : Int) (p203 : Option Addr) (c204 : Nat), (xs205, x206) = s' ∧ St [] H H' [oseg p203 (ints xs205)] ∧ Sb p203 (xs205.length) c204 1 ∧ Am.Sub [(0, .int .i64 a0), (1, .slice p_a1 a1.length c_a1), (2, .slice p_a2 a2.length c_a2), (7, .slice p203 xs205.length c204), (11, .slice p_a2 a2.length c_a2), (12, .int .i64 ((a2.length : Nat) : Int)), (13, .int .i64 x206)] t') hl258 ?_ ?_
    · skip
      have S260 := S102.front 0 rfl
      exact ⟨[], 0, (some (Addr.mk i101 0 none)), 0, rfl, S260, (Sb.lit (n := 0) (by decide)), Sub.cons' rfl rfl (Sub.cons' rfl rfl (Sub.cons' rfl rfl (Sub.cons' rfl rfl (Sub.cons' rfl rfl (Sub.cons' rfl rfl (Sub.cons' rfl rfl (Sub.nil _)))))))⟩
    · rintro n261 _ t' G265 ⟨xs205, x206, p203, c204, rfl, S264, Bo202, hsub266⟩ o267 ho262 hk263
      refine AX.sub hsub266 ?_
      unfold D_impl_isAdder_s0 at ho262
      refine AX.seq ?_
      refine AX.region ?_
      refine AO.p rfl (p_lss rfl rfl) ?_
      refine AO.nil ?_
      refine AX.seq ?_
      refine AX.cond rfl (fun c268 => ?_) (fun c268 => ?_)
      · have hd269 := bif_t c268 ho262
        refine AX.skip ?_
        refine AX.seq ?_
        refine AX.block ?_
        refine AX.seq ?_
        refine AX.region ?_
        refine AO.p rfl (p_move rfl) ?_
        obtain ⟨k270, hd271⟩ := chk_some hd269
        refine AO.p rfl (s_indexV (q := off p_a2 + x206.toNat) Try.underlying34 Try.sizeOf2 rfl ((S264.view v_a2).p (ints_get (lt_len rfl (inR_lt k270)))) rfl k270 (o1 _ _)) ?_
        refine AO.c rfl (s_load Try.isAgg2 rfl ((S264.view v_a2).get _ _ (ints_get (lt_len rfl (inR_lt k270))))) ?_
        refine AO.p rfl (p_assign rfl) ?_
        refine AO.p rfl (p_assign rfl) ?_
        refine AO.nil ?_
        refine DR.startS [false, false, false, false, false, false, false, false, false, false, false, false, false, false, false, false, false, false, false, false, false, false, true, false] mix (by kernel_rfl) (fun hst => ?_)
        refine DR.p rfl rfl (p_move rfl) ?_
        refine DR.p rfl rfl (p_move rfl) ?_
        refine DR.p rfl rfl (p_move rfl) ?_
        obtain ⟨k272, hd273⟩ := chk_some hd271
        obtain ⟨p274, c275, e276, f277⟩ := tget t_a1 (lt_len rfl (inR_lt k272))
        refine DR.p rfl rfl (s_indexV (q := off p_a1 + x206.toNat) Try.underlying22 Try.sizeOf34 rfl ((S264.view v_a1).p f277) rfl k272 (o1 _ _)) ?_
        refine DR.r rfl rfl (r_load rfl Try.isAgg34) (one_read ((S264.view v_a1).get _ _ f277) (TVw.at (S264.tview w_a1) e276).inn.bel) ?_
        obtain ⟨k278, hd279⟩ := chk_some hd273
        refine DR.p rfl rfl (s_indexV (q := off p274 + 0) Try.underlying34 Try.sizeOf2 rfl ((TVw.at (S264.tview w_a1) e276).p (ints_get (lt_len rfl (inR_lt k278)))) rfl k278 (o1 _ _)) ?_
        refine DR.r rfl rfl (r_load rfl Try.isAgg2) (one_read ((TVw.at (S264.tview w_a1) e276).get _ _ (ints_get (lt_len rfl (inR_lt k278)))) (.of_flat0 rfl)) ?_
        refine DR.p rfl rfl (p_move rfl) ?_
        obtain ⟨k280, hd281⟩ := chk_some hd279
        refine DR.p rfl rfl (p_addE rfl rfl k280) ?_
        refine DR.p rfl rfl (p_move rfl) ?_
        obtain ⟨k282, hd283⟩ := chk_some hd281
        refine DR.p rfl rfl (p_remE rfl rfl k282) ?_
        refine DR.p rfl rfl (p_move rfl) ?_
        refine DR.p rfl rfl (p_move rfl) ?_
        obtain ⟨k284, hd285⟩ := chk_some hd283
        obtain ⟨p286, c287, e288, f289⟩ := tget t_a1 (lt_len rfl (inR_lt k284))
        refine DR.p rfl rfl (s_indexV (q := off p_a1 + x206.toNat) Try.underlying22 Try.sizeOf34 rfl ((S264.view v_a1).p f289) rfl k284 (o1 _ _)) ?_
        refine DR.r rfl rfl (r_load rfl Try.isAgg34) (one_read ((S264.view v_a1).get _ _ f289) (TVw.at (S264.tview w_a1) e288).inn.bel) ?_
        obtain ⟨k290, hd291⟩ := chk_some hd285
        refine DR.p rfl rfl (s_indexV (q := off p286 + 1) Try.underlying34 Try.sizeOf2 rfl ((TVw.at (S264.tview w_a1) e288).p (ints_get (lt_len rfl (inR_lt k290)))) rfl k290 (o1 _ _)) ?_
        refine DR.r rfl rfl (r_load rfl Try.isAgg2) (one_read ((TVw.at (S264.tview w_a1) e288).get _ _ (ints_get (lt_len rfl (inR_lt k290)))) (.of_flat0 rfl)) ?_
        refine DR.p rfl rfl (p_move rfl) ?_
        obtain ⟨k292, hd293⟩ := chk_some hd291
        refine DR.p rfl rfl (p_addE rfl rfl k292) ?_
        refine DR.p rfl rfl (p_move rfl) ?_
        obtain ⟨k294, hd295⟩ := chk_some hd293
        refine DR.p rfl rfl (p_remE rfl rfl k294) ?_
        obtain ⟨G296, i297, hii297, hHG296, S298⟩ := S264.new (AObj.row false (ints [(rd (rw_ a1 x206.toNat) 0 + (rd a2 x206.toNat)).tmod a0, (rd (rw_ a1 x206.toNat) 1 + (rd a2 x206.toNat)).tmod a0]))
        refine DR.a rfl rfl hii297 hHG296 (a_buildInts (vs := [(0, .int .i64 ((rd (rw_ a1 x206.toNat) 0 + (rd a2 x206.toNat)).tmod a0)), (1, .int .i64 ((rd (rw_ a1 x206.toNat) 1 + (rd a2 x206.toNat)).tmod a0))]) (xs := [(rd (rw_ a1 x206.toNat) 0 + (rd a2 x206.toNat)).tmod a0, (rd (rw_ a1 x206.toNat) 1 + (rd a2 x206.toNat)).tmod a0]) Try.underlying34 Try.sizeOf2 Try.zeroValue2 rfl rfl (by decide) rfl rfl) ?_
        obtain ⟨k300, hd301⟩ := chk_some hd295
        obtain ⟨p302, c303, G304, haG304, S305, Bp302⟩ := S298.app (k := 1) rfl Bo202 (ints [(rd (rw_ a1 x206.toNat) 0 + (rd a2 x206.toNat)).tmod a0, (rd (rw_ a1 x206.toNat) 1 + (rd a2 x206.toNat)).tmod a0]) 2 (ints_len1 rfl)
        have S306 := S305.cellsEq (k := 1) (us' := ints (xs205 ++ [(rd (rw_ a1 x206.toNat) 0 + (rd a2 x206.toNat)).tmod a0, (rd (rw_ a1 x206.toNat) 1 + (rd a2 x206.toNat)).tmod a0])) (ints_app _ _) rfl
        have BS306 : Sb p302 ((xs205 ++ [(rd (rw_ a1 x206.toNat) 0 + (rd a2 x206.toNat)).tmod a0, (rd (rw_ a1 x206.toNat) 1 + (rd a2 x206.toNat)).tmod a0]).length) c303 1 := (show xs205.length + 2 = (xs205 ++ [(rd (rw_ a1 x206.toNat) 0 + (rd a2 x206.toNat)).tmod a0, (rd (rw_ a1 x206.toNat) 1 + (rd a2 x206.toNat)).tmod a0]).length from len_app (a := xs205) (b := [(rd (rw_ a1 x206.toNat) 0 + (rd a2 x206.toNat)).tmod a0, (rd (rw_ a1 x206.toNat) 1 + (rd a2 x206.toNat)).tmod a0]) rfl rfl) ▸ Bp302
        have S307 := S306.drop 0 rfl
        refine DR.w rfl rfl (s_app (by_ := 8) (us := ints xs205) (vs := ints [(rd (rw_ a1 x206.toNat) 0 + (rd a2 x206.toNat)).tmod a0, (rd (rw_ a1 x206.toNat) 1 + (rd a2 x206.toNat)).tmod a0]) Try.underlying34 Try.underlying34 Try.typeInfo2 Try.sizeOf2 Try.zeroValue2 rfl rfl rfl rfl rfl rfl rfl (S298.buf (k := 1) rfl Bo202 (ints_len1 rfl)) (S298.oview (k := 0) rfl (Sb.lit (n := 2) (by decide)) (ints_len1 rfl)) (ints_len1 rfl) ints_one k300 haG304 (show xs205.length + 2 = (xs205 ++ [(rd (rw_ a1 x206.toNat) 0 + (rd a2 x206.toNat)).tmod a0, (rd (rw_ a1 x206.toNat) 1 + (rd a2 x206.toNat)).tmod a0]).length from len_app (a := xs205) (b := [(rd (rw_ a1 x206.toNat) 0 + (rd a2 x206.toNat)).tmod a0, (rd (rw_ a1 x206.toNat) 1 + (rd a2 x206.toNat)).tmod a0]) rfl rfl)) (appR_len haG304) ?_
        refine DR.p rfl rfl (p_assign rfl) ?_
        refine DR.nil 24 [] hst (by kernel_rfl) trivial ?_
        refine AX.region ?_
        obtain ⟨k308, hd309⟩ := chk_some hd301
        refine AO.p rfl (p_addE rfl rfl k308) ?_
        refine AO.p rfl (p_move rfl) ?_
        refine AO.nil ?_
        obtain rfl := some_inj hd309
        have S311 := S307.front 0 rfl
        exact ⟨((xs205 ++ [(rd (rw_ a1 x206.toNat) 0 + (rd a2 x206.toNat)).tmod a0, (rd (rw_ a1 x206.toNat) 1 + (rd a2 x206.toNat)).tmod a0]), x206 + 1), hk263, (xs205 ++ [(rd (rw_ a1 x206.toNat) 0 + (rd a2 x206.toNat)).tmod a0, (rd (rw_ a1 x206.toNat) 1 + (rd a2 x206.toNat)).tmod a0]), (x206 + 1), p302, c303, rfl, S311, BS306, Sub.cons' rfl rfl (Sub.cons' rfl rfl (Sub.cons' rfl rfl (Sub.cons' rfl rfl (Sub.cons' rfl rfl (Sub.cons' rfl rfl (Sub.cons' rfl rfl (Sub.nil _)))))))⟩
      · have hd312 := bif_f c268 ho262
        refine AX.exit ?_
        obtain rfl := some_inj hd312
        have S313 := S264.front 0 rfl
        exact ⟨xs205, p203, c204, hk263, S313, Bo202, Sub.cons' rfl rfl (Sub.cons' rfl rfl (Sub.nil _))⟩
  · rintro t' G315 ⟨xs256, p254, c255, rfl, S314, Bo253, hsub316⟩
    refine ⟨_, hsub316, ?_⟩
    obtain ⟨r329, hb330, hd331⟩ := bnd_some hd259
    refine AX.cut (fun t' H' => ∃ (b328 : Bool), b328 = r329 ∧ St [] H H' [] ∧ Am.Sub [(6, .bool b328)] t') ?_ ?_
    · skip
      refine AX.region ?_
      refine AO.p rfl (p_move rfl) ?_
      obtain ⟨b332, h333, hd334⟩ := bnd_some hb330
      refine AO.c rfl (o_call (vs := [.slice p_a2 a2.length c_a2]) rfl Try.call61 (W_impl_areDifferent fu G315 p_a2 c_a2 a2 (S314.view v_a2) b332 h333)) ?_
      refine AO.p rfl (p_move rfl) ?_
      refine AO.cases (d := 44) rfl (fun c336 => ?_) (fun c336 => ?_)
      · have hd337 := bif_t c336 hd334
        refine AO.gp rfl rfl rfl (p_move rfl) ?_
        obtain ⟨b338, h339, hd340⟩ := bnd_some hd337
        refine AO.gc rfl rfl rfl (o_call (vs := [.slice p254 xs256.length c255]) rfl Try.call61 (W_impl_areDifferent fu G315 p254 c255 xs256 (S314.oview (k := 0) rfl Bo253 (ints_len1 rfl)) b338 h339)) ?_
        refine AO.p rfl (p_pickT rfl rfl) ?_
        refine AO.p rfl (p_assign rfl) ?_
        refine AO.nil ?_
        have S342 := S314.keep 0
        exact ⟨b338, (some_inj hd340), S342, Sub.cons' rfl rfl (Sub.nil _)⟩
      · have hd343 := bif_f c336 hd334
        refine AO.gn rfl rfl rfl ?_
        refine AO.gn rfl rfl rfl ?_
        refine AO.p rfl (p_pickF rfl rfl) ?_
        refine AO.p rfl (p_assign rfl) ?_
        refine AO.nil ?_
        have S344 := S314.keep 0
        exact ⟨false, (some_inj hd343), S344, Sub.cons' rfl rfl (Sub.nil _)⟩
    · rintro t' G346 ⟨b328, rfl, S345, hsub347⟩
      refine AX.sub hsub347 ?_
      refine AX.ret ?_
      obtain rfl := some_inj hd331
      exact ⟨.inr rfl, _, res1 rfl (rv_tmp rfl), rfl, (flatB_ok rfl), S345.hold⟩

set_option maxHeartbeats 4000000 in
theorem W_impl_IsAdder (fu : Nat) (H : AHeap) (a0 : Int) (p_a1 : Option Addr) (c_a1 : Nat) (T_a1 : Tb) (a1 : List (List Int)) (t_a1 : trows T_a1 = a1) (v_a1 : Vw H p_a1 a1.length c_a1 (tcells T_a1)) (w_a1 : TVw H T_a1) (p_a2 : Option Addr) (c_a2 : Nat) (a2 : List Int) (v_a2 : Vw H p_a2 a2.length c_a2 (ints a2)) (r0 : Bool) (r1 : Int) (hd : D_impl_IsAdder fu a0 a1 a2 = some (r0, r1)) : ACall Try.prog 31 [.int .i64 a0, .slice p_a1 a1.length c_a1, .slice p_a2 a2.length c_a2] H (.tuple #[.bool r0, .int .i64 r1]) H := by
  refine ACall.bodyP (N := 21) [(0, .int .i64 a0), (1, .slice p_a1 a1.length c_a1), (2, .slice p_a2 a2.length c_a2)] Try.func31 rfl rfl rfl rfl ?_
  unfold D_impl_IsAdder at hd
  have S0 : St [] H H [] := St.nil H
  refine AX.seq ?_
  refine AX.region ?_
  obtain ⟨G100, i101, hii101, hHG100, S102⟩ := S0.new (AObj.row false ([.int .i64 a0]))
  refine AO.c rfl (s_box (i := i101) (cs := [.int .i64 a0]) rfl hii101 rfl hHG100) ?_
  obtain ⟨G104, i105, hii105, hHG104, S106⟩ := S102.new (AObj.row false ([.slice p_a1 a1.length c_a1]))
  refine AO.c rfl (s_box (i := i105) (cs := [.slice p_a1 a1.length c_a1]) rfl hii105 rfl hHG104) ?_
  obtain ⟨G108, i109, hii109, hHG108, S110⟩ := S106.new (AObj.row false ([.slice p_a2 a2.length c_a2]))
  refine AO.c rfl (s_box (i := i109) (cs := [.slice p_a2 a2.length c_a2]) rfl hii109 rfl hHG108) ?_
  refine AO.p rfl (p_assign rfl) ?_
  refine AO.p rfl (p_assign rfl) ?_
  refine AO.nil ?_
  refine AX.seq ?_
  refine AX.seq ?_
  refine AX.region ?_
  refine AO.c rfl (s_load Try.isAgg2 rfl (row_cell (S110.get (k := 2) rfl) rfl)) ?_
  refine AO.p rfl (p_makeFunc (fs := []) (cs := [.pointer (some ⟨i109, 0, none⟩), .pointer (some ⟨i105, 0, none⟩), .pointer (some ⟨i101, 0, none⟩)]) rfl rfl) ?_
  refine AO.c rfl (s_load Try.isAgg22 rfl (row_cell (S110.get (k := 1) rfl) rfl)) ?_
  obtain ⟨G112, i113, hii113, hHG112, S114⟩ := S110.new (AObj.row false ([.slice p_a1 a1.length c_a1]))
  refine AO.c rfl (s_buildSl (i := i113) (vs := [(0, .slice p_a1 a1.length c_a1)]) (cs := [.slice p_a1 a1.length c_a1]) Try.underlying92 Try.sizeOf22 Try.zeroValue22 rfl rfl (by decide) rfl rfl hii113 hHG112) ?_
  obtain ⟨x116, h117, hd118⟩ := bnd_some hd
  refine AO.c rfl (o_call (vs := [.int .i64 a0, .func (.func 77) #[] #[.pointer (some ⟨i109, 0, none⟩), .pointer (some ⟨i105, 0, none⟩), .pointer (some ⟨i101, 0, none⟩)], .slice (some (Addr.mk i113 0 none)) 1 1]) rfl Try.call54 (W_impl_starterCode fu G112 a0 77 #[] #[.pointer (some ⟨i109, 0, none⟩), .pointer (some ⟨i105, 0, none⟩), .pointer (some ⟨i101, 0, none⟩)] (fun _ => D_impl_IsAdder_1 fu a2 a1 a0) Try.call77 (fun G' hG  b' hb' => W_impl_IsAdder_1 fu G' i109 false p_a2 c_a2 a2 (hG.view (S114.view v_a2)) (hG.get (S114.get (k := 1) rfl)) i105 false p_a1 c_a1 T_a1 a1 t_a1 (hG.view (S114.view v_a1)) (hG.tview (S114.tview w_a1)) (hG.get (S114.get (k := 2) rfl)) i101 false a0 (hG.get (S114.get (k := 3) rfl)) b' hb') (some (Addr.mk i113 0 none)) 1 [(p_a1, c_a1, T_a1)] [a1] (trows3_1 t_a1) (vw3_1 (S114.get (k := 0) rfl) t_a1 rfl) (TVw3.cons (S114.view v_a1) t_a1 rfl (S114.tview w_a1) TVw3.nil) x116 h117)) ?_
  refine AO.p rfl (p_assign rfl) ?_
  refine AO.nil ?_
  refine AX.seq ?_
  refine AX.region ?_
  refine AO.p rfl (p_move rfl) ?_
  refine AO.p rfl (p_neq rfl rfl) ?_
  refine AO.nil ?_
  refine AX.cond rfl (fun c120 => ?_) (fun c120 => ?_)
  · have hd121 := bif_t c120 hd118
    refine AX.seq ?_
    refine AX.region ?_
    refine AO.p rfl (p_move rfl) ?_
    refine AO.p rfl (p_assign rfl) ?_
    refine AO.p rfl (p_assign rfl) ?_
    refine AO.nil ?_
    refine AX.ret ?_
    obtain ⟨rfl, rfl⟩ := Prod.mk.inj (some_inj hd121)
    exact ⟨.inr rfl, _, res2 rfl (rv_tmp rfl) (rv_tmp rfl), rfl, (flat_t2 (flatB_ok rfl) (flatB_ok rfl)), S114.hold⟩
  · have hd123 := bif_f c120 hd118
    refine AX.skip ?_
    refine AX.seq ?_
    refine AX.region ?_
    refine AO.c rfl (s_load Try.isAgg2 rfl (row_cell (S114.get (k := 3) rfl) rfl)) ?_
    refine AO.c rfl (s_load Try.isAgg22 rfl (row_cell (S114.get (k := 2) rfl) rfl)) ?_
    refine AO.c rfl (s_load Try.isAgg34 rfl (row_cell (S114.get (k := 1) rfl) rfl)) ?_
    obtain ⟨b124, h125, hd126⟩ := bnd_some hd123
    refine AO.c rfl (o_call (vs := [.int .i64 a0, .slice p_a1 a1.length c_a1, .slice p_a2 a2.length c_a2]) rfl Try.call81 (W_impl_isAdder fu G112 a0 p_a1 c_a1 T_a1 a1 t_a1 (S114.view v_a1) (S114.tview w_a1) p_a2 c_a2 a2 (S114.view v_a2) b124 h125)) ?_
    refine AO.p rfl (p_assign rfl) ?_
    refine AO.p rfl (p_assign rfl) ?_
    refine AO.nil ?_
    refine AX.ret ?_
    obtain ⟨rfl, rfl⟩ := Prod.mk.inj (some_inj hd126)
    exact ⟨.inr rfl, _, res2 rfl (rv_tmp rfl) (rv_tmp rfl), rfl, (flat_t2 (flatB_ok rfl) (flatB_ok rfl)), S114.hold⟩

end Go.Proofs.Ytakfkiahhfdjfaa
