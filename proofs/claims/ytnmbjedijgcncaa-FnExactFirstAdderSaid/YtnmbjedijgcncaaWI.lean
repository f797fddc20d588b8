/-
  The program computes that, printed by a program. No condition.
-/
import Derived.Test.YtnmbjedijgcncaaDI
import Derived.Test.YtnmbjedijgcncaaWD
import Derived.Test.YtnmbjedijgcncaaWAx
import Derived.Test.YtnmbjedijgcncaaProg
import Derived.KernelRfl
namespace Go.Proofs.Ytnmbjedijgcncaa
open Go Go.RowKit Am
set_option linter.unusedVariables false
set_option linter.unusedSimpArgs false
set_option maxRecDepth 20000
set_option maxHeartbeats 4000000 in
theorem W_spec_l03Adder (fu : Nat) (H : AHeap) (a0 : Int) (p_a1 : Option Addr) (c_a1 : Nat) (T_a1 : Tb) (a1 : List (List Int)) (t_a1 : trows T_a1 = a1) (v_a1 : Vw H p_a1 a1.length c_a1 (tcells T_a1)) (w_a1 : TVw H T_a1) (p_a2 : Option Addr) (c_a2 : Nat) (a2 : List Int) (v_a2 : Vw H p_a2 a2.length c_a2 (ints a2)) (r0 : Bool) (hd : D_spec_l03Adder fu a0 a1 a2 = some r0) : ACall Try.prog 123 [.int .i64 a0, .slice p_a1 a1.length c_a1, .slice p_a2 a2.length c_a2] H (.bool r0) H := by
  refine ACall.bodyP (N := 81) [(0, .int .i64 a0), (1, .slice p_a1 a1.length c_a1), (2, .slice p_a2 a2.length c_a2)] Try.func123 rfl rfl rfl rfl ?_
  unfold D_spec_l03Adder at hd
  have S0 : St [] H H [] := St.nil H
  refine AX.seq ?_
  refine AX.region ?_
  refine AO.p rfl (p_assign rfl) ?_
  refine AO.nil ?_
  refine AX.seq ?_
  refine DR.startS [false, false, false, false, false, false] mix (by kernel_rfl) (fun hst => ?_)
  refine DR.p rfl rfl (p_move rfl) ?_
  obtain ⟨k100, hd101⟩ := chk_some hd
  obtain ⟨G102, i103, hii103, hHG102, S104⟩ := S0.new (AObj.row false (bls (List.replicate a0.toNat false)))
  refine DR.a rfl rfl hii103 hHG102 (a_make1 (v := .bool false) (by_ := 1) Try.underlying109 Try.typeInfo4 Try.sizeOf4 Try.zeroValue4 rfl rfl rfl rfl rfl rfl k100 bls_rep) ?_
  refine DR.p rfl rfl (p_move rfl) ?_
  obtain ⟨k106, hd107⟩ := chk_some hd101
  obtain ⟨G108, i109, hii109, hHG108, S110⟩ := S104.new (AObj.row false (bls (List.replicate a0.toNat false)))
  refine DR.a rfl rfl hii109 hHG108 (a_make1 (v := .bool false) (by_ := 1) Try.underlying109 Try.typeInfo4 Try.sizeOf4 Try.zeroValue4 rfl rfl rfl rfl rfl rfl k106 bls_rep) ?_
  refine DR.p rfl rfl (p_assign rfl) ?_
  refine DR.p rfl rfl (p_assign rfl) ?_
  refine DR.nil 6 [] hst (by kernel_rfl) trivial ?_
  refine AX.seq ?_
  refine AX.region ?_
  refine AO.p rfl (p_move rfl) ?_
  obtain ⟨k112, hd113⟩ := chk_some hd107
  refine AO.p rfl (s_indexV (q := 0) Try.underlying109 Try.sizeOf4 rfl rfl rfl k112 rfl) ?_
  obtain ⟨G114, hHG114, S115⟩ := S110.set (k := 1) (i := i103) rfl (AObj.row false (bls ((List.replicate a0.toNat false).set 0 true)))
  refine AO.s (s_store Try.sizeOf4 rfl rfl rfl (S110.get (k := 1) rfl) (lt_len ((bls_length _).trans len_rep) (inR_lt k112)) ((congrArg (fun l => List.set _ _ (AObj.row false l)) (bls_set _ _ _)).trans hHG114)) ?_
  refine AO.nil ?_
  refine AX.seq ?_
  refine AX.seq ?_
  refine AX.region ?_
  refine AO.p rfl (p_assign rfl) ?_
  refine AO.nil ?_
  obtain ⟨r416, hl417, hd418⟩ := bnd_some hd113
  refine AX.cutS (fun t' H' => .inl () = r416 ∧ St [] H H' [] ∧ Am.Sub [] t') ?_ ?_
  · refine AX.block ?_
    refine AX.loopF (fun s' t' H' => ∃ (bs316 : List Bool) (bs318 : List Bool) (x319 : Int), (bs316, bs318, x319) = s' ∧ St [] H H' [[(i103, AObj.row false (bls bs316))], [(i109, AObj.row false (bls bs318))]] ∧ bs316.length = a0.toNat ∧ bs318.length = a0.toNat ∧ Am.Sub [(0, .int .i64 a0), (1, .slice p_a1 a1.length c_a1), (2, .slice p_a2 a2.length c_a2), (7, .slice (some (Addr.mk i103 0 none)) a0.toNat a0.toNat), (8, .slice (some (Addr.mk i109 0 none)) a0.toNat a0.toNat), (9, .int .i64 x319)] t') hl417 ?_ ?_
    · skip
      have S419 := S115.front 0 rfl
      have S420 := S419.front 1 rfl
      exact ⟨((List.replicate a0.toNat false).set 0 true), (List.replicate a0.toNat false), 0, rfl, S420, (len_set len_rep), len_rep, Sub.cons' rfl rfl (Sub.cons' rfl rfl (Sub.cons' rfl rfl (Sub.cons' rfl rfl (Sub.cons' rfl rfl (Sub.cons' rfl rfl (Sub.nil _))))))⟩
    · rintro n421 _ t' G425 ⟨bs316, bs318, x319, rfl, S424, lbs316, lbs318, hsub426⟩ o427 ho422 hk423
      refine AX.sub hsub426 ?_
      unfold D_spec_l03Adder_s0 at ho422
      refine AX.seq ?_
      refine AX.seq ?_
      refine AX.region ?_
      refine AO.p rfl (p_move rfl) ?_
      refine AO.p rfl (p_move rfl) ?_
      refine AO.p rfl (p_len_slice rfl Try.underlying31) ?_
      refine AO.p rfl (p_lss rfl rfl) ?_
      refine AO.nil ?_
      refine AX.cond rfl (fun c428 => ?_) (fun c428 => ?_)
      · have hd429 := bif_t c428 ho422
        refine AX.skip ?_
        refine AX.seq ?_
        refine AX.block ?_
        refine AX.seq ?_
        refine DR.startS [false, false, false, false, false, false, false, false, false, false, false, false, false, false, false, false, false, false, false, false, false, false, false, false, false, false, false, false] mix (by kernel_rfl) (fun hst => ?_)
        refine DR.p rfl rfl (p_move rfl) ?_
        refine DR.p rfl rfl (p_move rfl) ?_
        obtain ⟨k430, hd431⟩ := chk_some hd429
        obtain ⟨p432, c433, e434, f435⟩ := tget t_a1 (lt_len rfl (inR_lt k430))
        refine DR.p rfl rfl (s_indexV (q := off p_a1 + x319.toNat) Try.underlying23 Try.sizeOf31 rfl ((S424.view v_a1).p f435) rfl k430 (o1 _ _)) ?_
        refine DR.r rfl rfl (r_load rfl Try.isAgg31) (one_read ((S424.view v_a1).get _ _ f435) (TVw.at (S424.tview w_a1) e434).inn.bel) ?_
        obtain ⟨k436, hd437⟩ := chk_some hd431
        refine DR.p rfl rfl (s_indexV (q := off p432 + 0) Try.underlying31 Try.sizeOf2 rfl ((TVw.at (S424.tview w_a1) e434).p (ints_get (lt_len rfl (inR_lt k436)))) rfl k436 (o1 _ _)) ?_
        refine DR.r rfl rfl (r_load rfl Try.isAgg2) (one_read ((TVw.at (S424.tview w_a1) e434).get _ _ (ints_get (lt_len rfl (inR_lt k436)))) (.of_flat0 rfl)) ?_
        refine DR.p rfl rfl (p_move rfl) ?_
        refine DR.p rfl rfl (p_move rfl) ?_
        obtain ⟨k438, hd439⟩ := chk_some hd437
        refine DR.p rfl rfl (s_indexV (q := off p_a2 + x319.toNat) Try.underlying31 Try.sizeOf2 rfl ((S424.view v_a2).p (ints_get (lt_len rfl (inR_lt k438)))) rfl k438 (o1 _ _)) ?_
        refine DR.r rfl rfl (r_load rfl Try.isAgg2) (one_read ((S424.view v_a2).get _ _ (ints_get (lt_len rfl (inR_lt k438)))) (.of_flat0 rfl)) ?_
        obtain ⟨k440, hd441⟩ := chk_some hd439
        refine DR.p rfl rfl (p_addE rfl rfl k440) ?_
        refine DR.p rfl rfl (p_move rfl) ?_
        obtain ⟨k442, hd443⟩ := chk_some hd441
        refine DR.p rfl rfl (p_remE rfl rfl k442) ?_
        refine DR.p rfl rfl (p_move rfl) ?_
        refine DR.p rfl rfl (p_move rfl) ?_
        obtain ⟨k444, hd445⟩ := chk_some hd443
        obtain ⟨p446, c447, e448, f449⟩ := tget t_a1 (lt_len rfl (inR_lt k444))
        refine DR.p rfl rfl (s_indexV (q := off p_a1 + x319.toNat) Try.underlying23 Try.sizeOf31 rfl ((S424.view v_a1).p f449) rfl k444 (o1 _ _)) ?_
        refine DR.r rfl rfl (r_load rfl Try.isAgg31) (one_read ((S424.view v_a1).get _ _ f449) (TVw.at (S424.tview w_a1) e448).inn.bel) ?_
        obtain ⟨k450, hd451⟩ := chk_some hd445
        refine DR.p rfl rfl (s_indexV (q := off p446 + 1) Try.underlying31 Try.sizeOf2 rfl ((TVw.at (S424.tview w_a1) e448).p (ints_get (lt_len rfl (inR_lt k450)))) rfl k450 (o1 _ _)) ?_
        refine DR.r rfl rfl (r_load rfl Try.isAgg2) (one_read ((TVw.at (S424.tview w_a1) e448).get _ _ (ints_get (lt_len rfl (inR_lt k450)))) (.of_flat0 rfl)) ?_
        refine DR.p rfl rfl (p_move rfl) ?_
        refine DR.p rfl rfl (p_move rfl) ?_
        obtain ⟨k452, hd453⟩ := chk_some hd451
        refine DR.p rfl rfl (s_indexV (q := off p_a2 + x319.toNat) Try.underlying31 Try.sizeOf2 rfl ((S424.view v_a2).p (ints_get (lt_len rfl (inR_lt k452)))) rfl k452 (o1 _ _)) ?_
        refine DR.r rfl rfl (r_load rfl Try.isAgg2) (one_read ((S424.view v_a2).get _ _ (ints_get (lt_len rfl (inR_lt k452)))) (.of_flat0 rfl)) ?_
        obtain ⟨k454, hd455⟩ := chk_some hd453
        refine DR.p rfl rfl (p_addE rfl rfl k454) ?_
        refine DR.p rfl rfl (p_move rfl) ?_
        obtain ⟨k456, hd457⟩ := chk_some hd455
        refine DR.p rfl rfl (p_remE rfl rfl k456) ?_
        refine DR.p rfl rfl (p_assign rfl) ?_
        refine DR.p rfl rfl (p_assign rfl) ?_
        refine DR.nil 28 [] hst (by kernel_rfl) trivial ?_
        refine AX.seq ?_
        obtain ⟨r475, hb476, hd477⟩ := bnd_some hd457
        refine AX.cut (fun t' H' => ∃ (b474 : Bool), b474 = r475 ∧ St [] H H' [[(i103, AObj.row false (bls bs316))], [(i109, AObj.row false (bls bs318))]] ∧ Am.Sub [(0, .int .i64 a0), (1, .slice p_a1 a1.length c_a1), (2, .slice p_a2 a2.length c_a2), (7, .slice (some (Addr.mk i103 0 none)) a0.toNat a0.toNat), (8, .slice (some (Addr.mk i109 0 none)) a0.toNat a0.toNat), (9, .int .i64 x319), (10, .int .i64 ((rd (rw_ a1 x319.toNat) 0 + (rd a2 x319.toNat)).tmod a0)), (11, .int .i64 ((rd (rw_ a1 x319.toNat) 1 + (rd a2 x319.toNat)).tmod a0)), (68, .bool b474)] t') ?_ ?_
        · skip
          refine AX.region ?_
          refine AO.p rfl (p_move rfl) ?_
          refine AO.p rfl (p_move rfl) ?_
          obtain ⟨k478, hd479⟩ := chk_some hb476
          refine AO.p rfl (s_indexV (q := ((rd (rw_ a1 x319.toNat) 0 + (rd a2 x319.toNat)).tmod a0).toNat) Try.underlying109 Try.sizeOf4 rfl rfl rfl k478 (z1 _)) ?_
          refine AO.c rfl (s_load Try.isAgg4 rfl (row_cell (S424.get (k := 0) rfl) (bls_get (lt_len lbs316 (inR_lt k478))))) ?_
          refine AO.p rfl (p_move rfl) ?_
          refine AO.cases (d := 54) rfl (fun c480 => ?_) (fun c480 => ?_)
          · have hd481 := bif_t c480 hd479
            refine AO.gn rfl rfl rfl ?_
            refine AO.gn rfl rfl rfl ?_
            refine AO.gn rfl rfl rfl ?_
            refine AO.gn rfl rfl rfl ?_
            refine AO.p rfl (p_pickT rfl rfl) ?_
            refine AO.p rfl (p_move rfl) ?_
            refine AO.gn rfl rfl rfl ?_
            refine AO.gn rfl rfl rfl ?_
            refine AO.gn rfl rfl rfl ?_
            refine AO.gn rfl rfl rfl ?_
            refine AO.gn rfl rfl rfl ?_
            refine AO.gn rfl rfl rfl ?_
            refine AO.gn rfl rfl rfl ?_
            refine AO.p rfl (p_pickT rfl rfl) ?_
            refine AO.nil ?_
            have S482 := S424.front 1 rfl
            have S483 := S482.front 1 rfl
            exact ⟨true, (some_inj hd481), S483, Sub.cons' rfl rfl (Sub.cons' rfl rfl (Sub.cons' rfl rfl (Sub.cons' rfl rfl (Sub.cons' rfl rfl (Sub.cons' rfl rfl (Sub.cons' rfl rfl (Sub.cons' rfl rfl (Sub.cons' rfl rfl (Sub.nil _)))))))))⟩
          · have hd484 := bif_f c480 hd479
            refine AO.gp rfl rfl rfl (p_move rfl) ?_
            refine AO.gp rfl rfl rfl (p_move rfl) ?_
            obtain ⟨k485, hd486⟩ := chk_some hd484
            refine AO.gp rfl rfl rfl (s_indexV (q := ((rd (rw_ a1 x319.toNat) 1 + (rd a2 x319.toNat)).tmod a0).toNat) Try.underlying109 Try.sizeOf4 rfl rfl rfl k485 (z1 _)) ?_
            refine AO.gc rfl rfl rfl (s_load Try.isAgg4 rfl (row_cell (S424.get (k := 0) rfl) (bls_get (lt_len lbs316 (inR_lt k485))))) ?_
            refine AO.p rfl (p_pickF rfl rfl) ?_
            refine AO.p rfl (p_move rfl) ?_
            refine AO.cases (d := 60) rfl (fun c487 => ?_) (fun c487 => ?_)
            · have hd488 := bif_t c487 hd486
              refine AO.gn rfl rfl rfl ?_
              refine AO.gn rfl rfl rfl ?_
              refine AO.gn rfl rfl rfl ?_
              refine AO.gn rfl rfl rfl ?_
              refine AO.gn rfl rfl rfl ?_
              refine AO.gn rfl rfl rfl ?_
              refine AO.gn rfl rfl rfl ?_
              refine AO.p rfl (p_pickT rfl rfl) ?_
              refine AO.nil ?_
              have S489 := S424.front 1 rfl
              have S490 := S489.front 1 rfl
              exact ⟨true, (some_inj hd488), S490, Sub.cons' rfl rfl (Sub.cons' rfl rfl (Sub.cons' rfl rfl (Sub.cons' rfl rfl (Sub.cons' rfl rfl (Sub.cons' rfl rfl (Sub.cons' rfl rfl (Sub.cons' rfl rfl (Sub.cons' rfl rfl (Sub.nil _)))))))))⟩
            · have hd491 := bif_f c487 hd486
              refine AO.gp rfl rfl rfl (p_move rfl) ?_
              refine AO.gp rfl rfl rfl (p_move rfl) ?_
              refine AO.gp rfl rfl rfl (p_move rfl) ?_
              obtain ⟨k492, hd493⟩ := chk_some hd491
              refine AO.gp rfl rfl rfl (s_indexV (q := off p_a2 + x319.toNat) Try.underlying31 Try.sizeOf2 rfl ((S424.view v_a2).p (ints_get (lt_len rfl (inR_lt k492)))) rfl k492 (o1 _ _)) ?_
              refine AO.gc rfl rfl rfl (s_load Try.isAgg2 rfl ((S424.view v_a2).get _ _ (ints_get (lt_len rfl (inR_lt k492))))) ?_
              obtain ⟨k494, hd495⟩ := chk_some hd493
              refine AO.gp rfl rfl rfl (s_indexV (q := (rd a2 x319.toNat).toNat) Try.underlying109 Try.sizeOf4 rfl rfl rfl k494 (z1 _)) ?_
              refine AO.gc rfl rfl rfl (s_load Try.isAgg4 rfl (row_cell (S424.get (k := 1) rfl) (bls_get (lt_len lbs318 (inR_lt k494))))) ?_
              refine AO.p rfl (p_pickF rfl rfl) ?_
              refine AO.nil ?_
              have S496 := S424.front 1 rfl
              have S497 := S496.front 1 rfl
              exact ⟨(rdb bs318 ((rd a2 x319.toNat).toNat)), (some_inj hd495), S497, Sub.cons' rfl rfl (Sub.cons' rfl rfl (Sub.cons' rfl rfl (Sub.cons' rfl rfl (Sub.cons' rfl rfl (Sub.cons' rfl rfl (Sub.cons' rfl rfl (Sub.cons' rfl rfl (Sub.cons' rfl rfl (Sub.nil _)))))))))⟩
        · rintro t' G499 ⟨b474, rfl, S498, hsub500⟩
          refine AX.sub hsub500 ?_
          refine AX.cond rfl (fun c501 => ?_) (fun c501 => ?_)
          · have hd502 := bif_t c501 hd477
            refine AX.seq ?_
            refine AX.region ?_
            refine AO.p rfl (p_assign rfl) ?_
            refine AO.nil ?_
            refine AX.ret ?_
            obtain rfl := some_inj hd502
            have z503 : _ = r416 := hk423
            subst z503
            obtain rfl := some_inj hd418
            exact ⟨.inr rfl, _, res1 rfl (rv_tmp rfl), rfl, (flatB_ok rfl), S498.hold⟩
          · have hd504 := bif_f c501 hd477
            refine AX.skip ?_
            refine AX.seq ?_
            refine AX.region ?_
            refine AO.p rfl (p_move rfl) ?_
            refine AO.p rfl (p_move rfl) ?_
            obtain ⟨k505, hd506⟩ := chk_some hd504
            refine AO.p rfl (s_indexV (q := ((rd (rw_ a1 x319.toNat) 0 + (rd a2 x319.toNat)).tmod a0).toNat) Try.underlying109 Try.sizeOf4 rfl rfl rfl k505 (z1 _)) ?_
            obtain ⟨G507, hHG507, S508⟩ := S498.set (k := 0) (i := i103) rfl (AObj.row false (bls (bs316.set (((rd (rw_ a1 x319.toNat) 0 + (rd a2 x319.toNat)).tmod a0).toNat) true)))
            refine AO.s (s_store Try.sizeOf4 rfl rfl rfl (S498.get (k := 0) rfl) (lt_len ((bls_length _).trans lbs316) (inR_lt k505)) ((congrArg (fun l => List.set _ _ (AObj.row false l)) (bls_set _ _ _)).trans hHG507)) ?_
            refine AO.nil ?_
            refine AX.seq ?_
            refine AX.region ?_
            refine AO.p rfl (p_move rfl) ?_
            refine AO.p rfl (p_move rfl) ?_
            obtain ⟨k509, hd510⟩ := chk_some hd506
            refine AO.p rfl (s_indexV (q := ((rd (rw_ a1 x319.toNat) 1 + (rd a2 x319.toNat)).tmod a0).toNat) Try.underlying109 Try.sizeOf4 rfl rfl rfl k509 (z1 _)) ?_
            obtain ⟨G511, hHG511, S512⟩ := S508.set (k := 0) (i := i103) rfl (AObj.row false (bls ((bs316.set (((rd (rw_ a1 x319.toNat) 0 + (rd a2 x319.toNat)).tmod a0).toNat) true).set (((rd (rw_ a1 x319.toNat) 1 + (rd a2 x319.toNat)).tmod a0).toNat) true)))
            refine AO.s (s_store Try.sizeOf4 rfl rfl rfl (S508.get (k := 0) rfl) (lt_len ((bls_length _).trans (len_set lbs316)) (inR_lt k509)) ((congrArg (fun l => List.set _ _ (AObj.row false l)) (bls_set _ _ _)).trans hHG511)) ?_
            refine AO.nil ?_
            refine AX.region ?_
            refine AO.p rfl (p_move rfl) ?_
            refine AO.p rfl (p_move rfl) ?_
            refine AO.p rfl (p_move rfl) ?_
            obtain ⟨k513, hd514⟩ := chk_some hd510
            refine AO.p rfl (s_indexV (q := off p_a2 + x319.toNat) Try.underlying31 Try.sizeOf2 rfl ((S512.view v_a2).p (ints_get (lt_len rfl (inR_lt k513)))) rfl k513 (o1 _ _)) ?_
            refine AO.c rfl (s_load Try.isAgg2 rfl ((S512.view v_a2).get _ _ (ints_get (lt_len rfl (inR_lt k513))))) ?_
            obtain ⟨k515, hd516⟩ := chk_some hd514
            refine AO.p rfl (s_indexV (q := (rd a2 x319.toNat).toNat) Try.underlying109 Try.sizeOf4 rfl rfl rfl k515 (z1 _)) ?_
            obtain ⟨G517, hHG517, S518⟩ := S512.set (k := 1) (i := i109) rfl (AObj.row false (bls (bs318.set ((rd a2 x319.toNat).toNat) true)))
            refine AO.s (s_store Try.sizeOf4 rfl rfl rfl (S512.get (k := 1) rfl) (lt_len ((bls_length _).trans lbs318) (inR_lt k515)) ((congrArg (fun l => List.set _ _ (AObj.row false l)) (bls_set _ _ _)).trans hHG517)) ?_
            refine AO.nil ?_
            refine AX.region ?_
            refine AO.p rfl (p_move rfl) ?_
            obtain ⟨k519, hd520⟩ := chk_some hd516
            refine AO.p rfl (p_addE rfl rfl k519) ?_
            refine AO.p rfl (p_assign rfl) ?_
            refine AO.nil ?_
            obtain rfl := some_inj hd520
            have S522 := S518.front 1 rfl
            have S523 := S522.front 1 rfl
            exact ⟨(((bs316.set (((rd (rw_ a1 x319.toNat) 0 + (rd a2 x319.toNat)).tmod a0).toNat) true).set (((rd (rw_ a1 x319.toNat) 1 + (rd a2 x319.toNat)).tmod a0).toNat) true), (bs318.set ((rd a2 x319.toNat).toNat) true), x319 + 1), hk423, ((bs316.set (((rd (rw_ a1 x319.toNat) 0 + (rd a2 x319.toNat)).tmod a0).toNat) true).set (((rd (rw_ a1 x319.toNat) 1 + (rd a2 x319.toNat)).tmod a0).toNat) true), (bs318.set ((rd a2 x319.toNat).toNat) true), (x319 + 1), rfl, S523, (len_set (len_set lbs316)), (len_set lbs318), Sub.cons' rfl rfl (Sub.cons' rfl rfl (Sub.cons' rfl rfl (Sub.cons' rfl rfl (Sub.cons' rfl rfl (Sub.cons' rfl rfl (Sub.nil _))))))⟩
      · have hd524 := bif_f c428 ho422
        refine AX.exit ?_
        obtain rfl := some_inj hd524
        have S525 := S424.keep 0
        exact ⟨hk423, S525, Sub.nil _⟩
  · rintro t' G527 ⟨rfl, S526, hsub528⟩
    refine ⟨_, hsub528, ?_⟩
    refine AX.seq ?_
    refine AX.region ?_
    refine AO.p rfl (p_assign rfl) ?_
    refine AO.nil ?_
    refine AX.ret ?_
    obtain rfl := some_inj hd418
    exact ⟨.inr rfl, _, res1 rfl (rv_tmp rfl), rfl, (flatB_ok rfl), S526.hold⟩

set_option maxHeartbeats 4000000 in
theorem W_impl_isAdder (fu : Nat) (H : AHeap) (a0 : Int) (p_a1 : Option Addr) (c_a1 : Nat) (T_a1 : Tb) (a1 : List (List Int)) (t_a1 : trows T_a1 = a1) (v_a1 : Vw H p_a1 a1.length c_a1 (tcells T_a1)) (w_a1 : TVw H T_a1) (p_a2 : Option Addr) (c_a2 : Nat) (a2 : List Int) (v_a2 : Vw H p_a2 a2.length c_a2 (ints a2)) (r0 : Bool) (hd : D_impl_isAdder fu a0 a1 a2 = some r0) : ACall Try.prog 127 [.int .i64 a0, .slice p_a1 a1.length c_a1, .slice p_a2 a2.length c_a2] H (.bool r0) H := by
  refine ACall.bodyP (N := 48) [(0, .int .i64 a0), (1, .slice p_a1 a1.length c_a1), (2, .slice p_a2 a2.length c_a2)] Try.func127 rfl rfl rfl rfl ?_
  unfold D_impl_isAdder at hd
  have S0 : St [] H H [] := St.nil H
  refine AX.seq ?_
  refine AX.region ?_
  refine AO.p rfl (p_assign rfl) ?_
  refine AO.nil ?_
  refine AX.seq ?_
  refine AX.region ?_
  obtain ⟨G100, i101, hii101, hHG100, S102⟩ := S0.new (AObj.row false (ints []))
  refine AO.c rfl (s_build0 (i := i101) Try.underlying31 Try.sizeOf2 hii101 hHG100) ?_
  refine AO.p rfl (p_assign rfl) ?_
  refine AO.nil ?_
  refine AX.seq ?_
  refine AX.seq ?_
  refine AX.region ?_
  refine AO.p rfl (p_move rfl) ?_
  refine AO.p rfl (p_len_slice rfl Try.underlying31) ?_
  refine AO.p rfl (p_move rfl) ?_
  refine AO.nil ?_
  obtain ⟨r257, hl258, hd259⟩ := bnd_some hd
  refine AX.cutS (fun t' H' => ∃ (xs256 : List Int) (p254 : Option Addr) (c255 : Nat), xs256 = r257 ∧ St [] H H' [oseg p254 (ints xs256)] ∧ Sb p254 (xs256.length) c255 1 ∧ Am.Sub [(2, .slice p_a2 a2.length c_a2), (7, .slice p254 xs256.length c255)] t') ?_ ?_
  · refine AX.block ?_
    refine AX.loopF (fun s' t' H' => ∃ (xs205 : List Int) (x206 : Int) (p203 : Option Addr) (c204 : Nat), (xs205, x206) = s' ∧ St [] H H' [oseg p203 (ints xs205)] ∧ Sb p203 (xs205.length) c204 1 ∧ Am.Sub [(0, .int .i64 a0), (1, .slice p_a1 a1.length c_a1), (2, .slice p_a2 a2.length c_a2), (7, .slice p203 xs205.length c204), (11, .slice p_a2 a2.length c_a2), (12, .int .i64 ((a2.length : Nat) : Int)), (13, .int .i64 x206)] t') hl258 ?_ ?_
    · skip
      have S260 := S102.front 0 rfl
      exact ⟨[], 0, (some (Addr.mk i101 0 none)), 0, rfl, S260, (Sb.lit (n := 0) (by decide)), Sub.cons' rfl rfl (Sub.cons' rfl rfl (Sub.cons' rfl rfl (Sub.cons' rfl rfl (Sub.cons' rfl rfl (Sub.cons' rfl rfl (Sub.cons' rfl rfl (Sub.nil _)))))))⟩
    · rintro n261 _ t' G265 ⟨xs205, x206, p203, c204, rfl, S264, Bo202, hsub266⟩ o267 ho262 hk263
      refine AX.sub hsub266 ?_
      unfold D_impl_isAdder_s0 at ho262
      refine AX.seq ?_
      refine AX.region ?_
      refine AO.p rfl (p_lss rfl rfl) ?_
      refine AO.nil ?_
      refine AX.seq ?_
      refine AX.cond rfl (fun c268 => ?_) (fun c268 => ?_)
      · have hd269 := bif_t c268 ho262
        refine AX.skip ?_
        refine AX.seq ?_
        refine AX.block ?_
        refine AX.seq ?_
        refine AX.region ?_
        refine AO.p rfl (p_move rfl) ?_
        obtain ⟨k270, hd271⟩ := chk_some hd269
        refine AO.p rfl (s_indexV (q := off p_a2 + x206.toNat) Try.underlying31 Try.sizeOf2 rfl ((S264.view v_a2).p (ints_get (lt_len rfl (inR_lt k270)))) rfl k270 (o1 _ _)) ?_
        refine AO.c rfl (s_load Try.isAgg2 rfl ((S264.view v_a2).get _ _ (ints_get (lt_len rfl (inR_lt k270))))) ?_
        refine AO.p rfl (p_assign rfl) ?_
        refine AO.p rfl (p_assign rfl) ?_
        refine AO.nil ?_
        refine DR.startS [false, false, false, false, false, false, false, false, false, false, false, false, false, false, false, false, false, false, false, false, false, false, true, false] mix (by kernel_rfl) (fun hst => ?_)
        refine DR.p rfl rfl (p_move rfl) ?_
        refine DR.p rfl rfl (p_move rfl) ?_
        refine DR.p rfl rfl (p_move rfl) ?_
        obtain ⟨k272, hd273⟩ := chk_some hd271
        obtain ⟨p274, c275, e276, f277⟩ := tget t_a1 (lt_len rfl (inR_lt k272))
        refine DR.p rfl rfl (s_indexV (q := off p_a1 + x206.toNat) Try.underlying23 Try.sizeOf31 rfl ((S264.view v_a1).p f277) rfl k272 (o1 _ _)) ?_
        refine DR.r rfl rfl (r_load rfl Try.isAgg31) (one_read ((S264.view v_a1).get _ _ f277) (TVw.at (S264.tview w_a1) e276).inn.bel) ?_
        obtain ⟨k278, hd279⟩ := chk_some hd273
        refine DR.p rfl rfl (s_indexV (q := off p274 + 0) Try.underlying31 Try.sizeOf2 rfl ((TVw.at (S264.tview w_a1) e276).p (ints_get (lt_len rfl (inR_lt k278)))) rfl k278 (o1 _ _)) ?_
        refine DR.r rfl rfl (r_load rfl Try.isAgg2) (one_read ((TVw.at (S264.tview w_a1) e276).get _ _ (ints_get (lt_len rfl (inR_lt k278)))) (.of_flat0 rfl)) ?_
        refine DR.p rfl rfl (p_move rfl) ?_
        obtain ⟨k280, hd281⟩ := chk_some hd279
        refine DR.p rfl rfl (p_addE rfl rfl k280) ?_
        refine DR.p rfl rfl (p_move rfl) ?_
        obtain ⟨k282, hd283⟩ := chk_some hd281
        refine DR.p rfl rfl (p_remE rfl rfl k282) ?_
        refine DR.p rfl rfl (p_move rfl) ?_
        refine DR.p rfl rfl (p_move rfl) ?_
        obtain ⟨k284, hd285⟩ := chk_some hd283
        obtain ⟨p286, c287, e288, f289⟩ := tget t_a1 (lt_len rfl (inR_lt k284))
        refine DR.p rfl rfl (s_indexV (q := off p_a1 + x206.toNat) Try.underlying23 Try.sizeOf31 rfl ((S264.view v_a1).p f289) rfl k284 (o1 _ _)) ?_
        refine DR.r rfl rfl (r_load rfl Try.isAgg31) (one_read ((S264.view v_a1).get _ _ f289) (TVw.at (S264.tview w_a1) e288).inn.bel) ?_
        obtain ⟨k290, hd291⟩ := chk_some hd285
        refine DR.p rfl rfl (s_indexV (q := off p286 + 1) Try.underlying31 Try.sizeOf2 rfl ((TVw.at (S264.tview w_a1) e288).p (ints_get (lt_len rfl (inR_lt k290)))) rfl k290 (o1 _ _)) ?_
        refine DR.r rfl rfl (r_load rfl Try.isAgg2) (one_read ((TVw.at (S264.tview w_a1) e288).get _ _ (ints_get (lt_len rfl (inR_lt k290)))) (.of_flat0 rfl)) ?_
        refine DR.p rfl rfl (p_move rfl) ?_
        obtain ⟨k292, hd293⟩ := chk_some hd291
        refine DR.p rfl rfl (p_addE rfl rfl k292) ?_
        refine DR.p rfl rfl (p_move rfl) ?_
        obtain ⟨k294, hd295⟩ := chk_some hd293
        refine DR.p rfl rfl (p_remE rfl rfl k294) ?_
        obtain ⟨G296, i297, hii297, hHG296, S298⟩ := S264.new (AObj.row false (ints [(rd (rw_ a1 x206.toNat) 0 + (rd a2 x206.toNat)).tmod a0, (rd (rw_ a1 x206.toNat) 1 + (rd a2 x206.toNat)).tmod a0]))
        refine DR.a rfl rfl hii297 hHG296 (a_buildInts (vs := [(0, .int .i64 ((rd (rw_ a1 x206.toNat) 0 + (rd a2 x206.toNat)).tmod a0)), (1, .int .i64 ((rd (rw_ a1 x206.toNat) 1 + (rd a2 x206.toNat)).tmod a0))]) (xs := [(rd (rw_ a1 x206.toNat) 0 + (rd a2 x206.toNat)).tmod a0, (rd (rw_ a1 x206.toNat) 1 + (rd a2 x206.toNat)).tmod a0]) Try.underlying31 Try.sizeOf2 Try.zeroValue2 rfl rfl (by decide) rfl rfl) ?_
        obtain ⟨k300, hd301⟩ := chk_some hd295
        obtain ⟨p302, c303, G304, haG304, S305, Bp302⟩ := S298.app (k := 1) rfl Bo202 (ints [(rd (rw_ a1 x206.toNat) 0 + (rd a2 x206.toNat)).tmod a0, (rd (rw_ a1 x206.toNat) 1 + (rd a2 x206.toNat)).tmod a0]) 2 (ints_len1 rfl)
        have S306 := S305.cellsEq (k := 1) (us' := ints (xs205 ++ [(rd (rw_ a1 x206.toNat) 0 + (rd a2 x206.toNat)).tmod a0, (rd (rw_ a1 x206.toNat) 1 + (rd a2 x206.toNat)).tmod a0])) (ints_app _ _) rfl
        have BS306 : Sb p302 ((xs205 ++ [(rd (rw_ a1 x206.toNat) 0 + (rd a2 x206.toNat)).tmod a0, (rd (rw_ a1 x206.toNat) 1 + (rd a2 x206.toNat)).tmod a0]).length) c303 1 := (show xs205.length + 2 = (xs205 ++ [(rd (rw_ a1 x206.toNat) 0 + (rd a2 x206.toNat)).tmod a0, (rd (rw_ a1 x206.toNat) 1 + (rd a2 x206.toNat)).tmod a0]).length from len_app (a := xs205) (b := [(rd (rw_ a1 x206.toNat) 0 + (rd a2 x206.toNat)).tmod a0, (rd (rw_ a1 x206.toNat) 1 + (rd a2 x206.toNat)).tmod a0]) rfl rfl) ▸ Bp302
        have S307 := S306.drop 0 rfl
        refine DR.w rfl rfl (s_app (by_ := 8) (us := ints xs205) (vs := ints [(rd (rw_ a1 x206.toNat) 0 + (rd a2 x206.toNat)).tmod a0, (rd (rw_ a1 x206.toNat) 1 + (rd a2 x206.toNat)).tmod a0]) Try.underlying31 Try.underlying31 Try.typeInfo2 Try.sizeOf2 Try.zeroValue2 rfl rfl rfl rfl rfl rfl rfl (S298.buf (k := 1) rfl Bo202 (ints_len1 rfl)) (S298.oview (k := 0) rfl (Sb.lit (n := 2) (by decide)) (ints_len1 rfl)) (ints_len1 rfl) ints_one k300 haG304 (show xs205.length + 2 = (xs205 ++ [(rd (rw_ a1 x206.toNat) 0 + (rd a2 x206.toNat)).tmod a0, (rd (rw_ a1 x206.toNat) 1 + (rd a2 x206.toNat)).tmod a0]).length from len_app (a := xs205) (b := [(rd (rw_ a1 x206.toNat) 0 + (rd a2 x206.toNat)).tmod a0, (rd (rw_ a1 x206.toNat) 1 + (rd a2 x206.toNat)).tmod a0]) rfl rfl)) (appR_len haG304) ?_
        refine DR.p rfl rfl (p_assign rfl) ?_
        refine DR.nil 24 [] hst (by kernel_rfl) trivial ?_
        refine AX.region ?_
        obtain ⟨k308, hd309⟩ := chk_some hd301
        refine AO.p rfl (p_addE rfl rfl k308) ?_
        refine AO.p rfl (p_move rfl) ?_
        refine AO.nil ?_
        obtain rfl := some_inj hd309
        have S311 := S307.front 0 rfl
        exact ⟨((xs205 ++ [(rd (rw_ a1 x206.toNat) 0 + (rd a2 x206.toNat)).tmod a0, (rd (rw_ a1 x206.toNat) 1 + (rd a2 x206.toNat)).tmod a0]), x206 + 1), hk263, (xs205 ++ [(rd (rw_ a1 x206.toNat) 0 + (rd a2 x206.toNat)).tmod a0, (rd (rw_ a1 x206.toNat) 1 + (rd a2 x206.toNat)).tmod a0]), (x206 + 1), p302, c303, rfl, S311, BS306, Sub.cons' rfl rfl (Sub.cons' rfl rfl (Sub.cons' rfl rfl (Sub.cons' rfl rfl (Sub.cons' rfl rfl (Sub.cons' rfl rfl (Sub.cons' rfl rfl (Sub.nil _)))))))⟩
      · have hd312 := bif_f c268 ho262
        refine AX.exit ?_
        obtain rfl := some_inj hd312
        have S313 := S264.front 0 rfl
        exact ⟨xs205, p203, c204, hk263, S313, Bo202, Sub.cons' rfl rfl (Sub.cons' rfl rfl (Sub.nil _))⟩
  · rintro t' G315 ⟨xs256, p254, c255, rfl, S314, Bo253, hsub316⟩
    refine ⟨_, hsub316, ?_⟩
    obtain ⟨r329, hb330, hd331⟩ := bnd_some hd259
    refine AX.cut (fun t' H' => ∃ (b328 : Bool), b328 = r329 ∧ St [] H H' [] ∧ Am.Sub [(6, .bool b328)] t') ?_ ?_
    · skip
      refine AX.region ?_
      refine AO.p rfl (p_move rfl) ?_
      obtain ⟨b332, h333, hd334⟩ := bnd_some hb330
      refine AO.c rfl (o_call (vs := [.slice p_a2 a2.length c_a2]) rfl Try.call138 (W_impl_areDifferent fu G315 p_a2 c_a2 a2 (S314.view v_a2) b332 h333)) ?_
      refine AO.p rfl (p_move rfl) ?_
      refine AO.cases (d := 44) rfl (fun c336 => ?_) (fun c336 => ?_)
      · have hd337 := bif_t c336 hd334
        refine AO.gp rfl rfl rfl (p_move rfl) ?_
        obtain ⟨b338, h339, hd340⟩ := bnd_some hd337
        refine AO.gc rfl rfl rfl (o_call (vs := [.slice p254 xs256.length c255]) rfl Try.call138 (W_impl_areDifferent fu G315 p254 c255 xs256 (S314.oview (k := 0) rfl Bo253 (ints_len1 rfl)) b338 h339)) ?_
        refine AO.p rfl (p_pickT rfl rfl) ?_
        refine AO.p rfl (p_assign rfl) ?_
        refine AO.nil ?_
        have S342 := S314.keep 0
        exact ⟨b338, (some_inj hd340), S342, Sub.cons' rfl rfl (Sub.nil _)⟩
      · have hd343 := bif_f c336 hd334
        refine AO.gn rfl rfl rfl ?_
        refine AO.gn rfl rfl rfl ?_
        refine AO.p rfl (p_pickF rfl rfl) ?_
        refine AO.p rfl (p_assign rfl) ?_
        refine AO.nil ?_
        have S344 := S314.keep 0
        exact ⟨false, (some_inj hd343), S344, Sub.cons' rfl rfl (Sub.nil _)⟩
    · rintro t' G346 ⟨b328, rfl, S345, hsub347⟩
      refine AX.sub hsub347 ?_
      refine AX.ret ?_
      obtain rfl := some_inj hd331
      exact ⟨.inr rfl, _, res1 rfl (rv_tmp rfl), rfl, (flatB_ok rfl), S345.hold⟩

set_option maxHeartbeats 4000000 in
theorem W_impl_firstAdder : ∀ (fu : Nat) (H : AHeap) (a0 : Int) (p_a1 : Option Addr) (c_a1 : Nat) (T_a1 : Tb) (a1 : List (List Int)) (t_a1 : trows T_a1 = a1) (v_a1 : Vw H p_a1 a1.length c_a1 (tcells T_a1)) (w_a1 : TVw H T_a1) (p_a2 : Option Addr) (c_a2 : Nat) (a2 : List Int) (v_a2 : Vw H p_a2 a2.length c_a2 (ints a2)) (e_a2 : c_a2 ≠ capE) (r0 : List Int) (hd : D_impl_firstAdder fu a0 a1 a2 = some r0), ∃ v G', ACall Try.prog 76 [.int .i64 a0, .slice p_a1 a1.length c_a1, .slice p_a2 a2.length c_a2] H v G' ∧ ∃ (p_r0 : Option Addr) (c_r0 : Nat), (v = .slice p_r0 r0.length c_r0) ∧ ((St [] H G' [oseg p_r0 (ints r0)] ∧ Sb p_r0 r0.length c_r0 1) ∨ (p_r0 = p_a2 ∧ c_r0 = c_a2 ∧ r0 = a2 ∧ St [] H G' [])) ∧ (r0 = [] → p_r0 = none) := by
  intro fu
  induction fu with
  | zero => intros; rename_i hd; cases hd
  | succ fu ih =>
  intro H a0 p_a1 c_a1 T_a1 a1 t_a1 v_a1 w_a1 p_a2 c_a2 a2 v_a2 e_a2 r0 hd
  refine ACall.bodyX (args := [.int .i64 a0, .slice p_a1 a1.length c_a1, .slice p_a2 a2.length c_a2]) (N := 37) [(0, .int .i64 a0), (1, .slice p_a1 a1.length c_a1), (2, .slice p_a2 a2.length c_a2)] (fun v G' => ∃ (p_r0 : Option Addr) (c_r0 : Nat), (v = .slice p_r0 r0.length c_r0) ∧ ((St [] H G' [oseg p_r0 (ints r0)] ∧ Sb p_r0 r0.length c_r0 1) ∨ (p_r0 = p_a2 ∧ c_r0 = c_a2 ∧ r0 = a2 ∧ St [] H G' [])) ∧ (r0 = [] → p_r0 = none)) Try.func76 rfl rfl rfl rfl ?_
  unfold D_impl_firstAdder at hd
  have S0 : St [] H H [] := St.nil H
  refine AX.seq ?_
  refine AX.region ?_
  refine AO.p rfl (p_assign rfl) ?_
  refine AO.nil ?_
  refine AX.seq ?_
  refine AX.seq ?_
  refine AX.region ?_
  refine AO.p rfl (p_move rfl) ?_
  refine AO.p rfl (p_len_slice rfl Try.underlying31) ?_
  refine AO.p rfl (p_move rfl) ?_
  refine AO.p rfl (p_len_slice rfl Try.underlying23) ?_
  refine AO.p rfl (p_eql rfl rfl) ?_
  refine AO.nil ?_
  refine AX.cond rfl (fun c100 => ?_) (fun c100 => ?_)
  · have hd101 := bif_t c100 hd
    refine AX.seq ?_
    refine AX.region ?_
    refine AO.p rfl (p_move rfl) ?_
    refine AO.p rfl (p_assign rfl) ?_
    refine AO.nil ?_
    refine AX.ret ?_
    obtain ⟨k102, hd103⟩ := chk_some hd101
    obtain rfl := some_inj hd103
    exact ⟨.inr rfl, _, res1 rfl (rv_tmp rfl), p_a2, c_a2, rfl, .inr ⟨rfl, rfl, rfl, S0.keep 0⟩, (nil_pos k102)⟩
  · have hd104 := bif_f c100 hd
    refine AX.skip ?_
    refine AX.seq ?_
    refine AX.seq ?_
    refine AX.region ?_
    refine AO.p rfl (p_assign rfl) ?_
    refine AO.nil ?_
    obtain ⟨r281, hl282, hd283⟩ := bnd_some hd104
    refine AX.cutS (fun t' H' => .inl () = r281 ∧ St [] H H' [] ∧ Am.Sub [] t') ?_ ?_
    · refine AX.block ?_
      refine AX.loopF (fun s' t' H' => ∃ (x222 : Int), x222 = s' ∧ St [] H H' [] ∧ Am.Sub [(0, .int .i64 a0), (1, .slice p_a1 a1.length c_a1), (2, .slice p_a2 a2.length c_a2), (7, .int .i64 x222)] t') hl282 ?_ ?_
      · skip
        exact ⟨1, rfl, S0, Sub.cons' rfl rfl (Sub.cons' rfl rfl (Sub.cons' rfl rfl (Sub.cons' rfl rfl (Sub.nil _))))⟩
      · rintro n284 _ t' G288 ⟨x222, rfl, S287, hsub289⟩ o290 ho285 hk286
        refine AX.sub hsub289 ?_
        unfold D_impl_firstAdder_s0 at ho285
        refine AX.seq ?_
        refine AX.seq ?_
        refine AX.region ?_
        refine AO.p rfl (p_move rfl) ?_
        refine AO.p rfl (p_move rfl) ?_
        refine AO.p rfl (p_lss rfl rfl) ?_
        refine AO.nil ?_
        refine AX.cond rfl (fun c291 => ?_) (fun c291 => ?_)
        · have hd292 := bif_t c291 ho285
          refine AX.skip ?_
          refine AX.seq ?_
          refine AX.block ?_
          refine AX.seq ?_
          refine AX.region ?_
          refine AO.p rfl (p_move rfl) ?_
          obtain ⟨xs293, h294, hd295⟩ := bnd_some hd292
          obtain ⟨_, G301, hc300, p296, c297, rfl, S302, B299⟩ := W_slices_Clone_Sint64_int64 fu G288 p_a2 c_a2 a2 (S287.view v_a2) e_a2 xs293 h294
          have S303 := S287.call S302
          refine AO.c rfl (o_call (vs := [.slice p_a2 a2.length c_a2]) rfl Try.call126 hc300) ?_
          refine AO.p rfl (p_move rfl) ?_
          obtain ⟨G304, i305, hii305, hHG304, S306⟩ := S303.new (AObj.row false (ints [x222]))
          refine AO.c rfl (s_buildInts (i := i305) (vs := [(0, .int .i64 x222)]) (xs := [x222]) Try.underlying31 Try.sizeOf2 Try.zeroValue2 rfl rfl (by decide) rfl rfl hii305 hHG304) ?_
          obtain ⟨k308, hd309⟩ := chk_some hd295
          obtain ⟨p310, c311, G312, haG312, S313, Bp310⟩ := S306.app (k := 1) rfl B299 (ints [x222]) 1 (ints_len1 rfl)
          have S314 := S313.cellsEq (k := 1) (us' := ints (xs293 ++ [x222])) (ints_app _ _) rfl
          have BS314 : Sb p310 ((xs293 ++ [x222]).length) c311 1 := (show xs293.length + 1 = (xs293 ++ [x222]).length from len_app (a := xs293) (b := [x222]) rfl rfl) ▸ Bp310
          have S315 := S314.drop 0 rfl
          refine AO.c rfl (s_app (by_ := 8) (us := ints xs293) (vs := ints [x222]) Try.underlying31 Try.underlying31 Try.typeInfo2 Try.sizeOf2 Try.zeroValue2 rfl rfl rfl rfl rfl rfl rfl (S306.buf (k := 1) rfl B299 (ints_len1 rfl)) (S306.oview (k := 0) rfl (Sb.lit (n := 1) (by decide)) (ints_len1 rfl)) (ints_len1 rfl) ints_one k308 haG312 (show xs293.length + 1 = (xs293 ++ [x222]).length from len_app (a := xs293) (b := [x222]) rfl rfl)) ?_
          refine AO.p rfl (p_assign rfl) ?_
          refine AO.nil ?_
          refine AX.seq ?_
          refine AX.region ?_
          refine AO.p rfl (p_move rfl) ?_
          refine AO.p rfl (p_move rfl) ?_
          refine AO.p rfl (p_move rfl) ?_
          obtain ⟨b316, h317, hd318⟩ := bnd_some hd309
          refine AO.c rfl (o_call (vs := [.int .i64 a0, .slice p_a1 a1.length c_a1, .slice p310 ((xs293 ++ [x222]).length) c311]) rfl Try.call127 (W_impl_isAdder fu G312 a0 p_a1 c_a1 T_a1 a1 t_a1 (S315.view v_a1) (S315.tview w_a1) p310 c311 (xs293 ++ [x222]) (S315.oview (k := 0) rfl BS314 (ints_len1 rfl)) b316 h317)) ?_
          refine AO.nil ?_
          refine AX.cond rfl (fun c320 => ?_) (fun c320 => ?_)
          · have hd321 := bif_t c320 hd318
            refine AX.seq ?_
            refine AX.region ?_
            refine AO.p rfl (p_move rfl) ?_
            refine AO.p rfl (p_move rfl) ?_
            refine AO.p rfl (p_move rfl) ?_
            have S322 := S315.front 0 rfl
            obtain ⟨xs323, h324, hd325⟩ := bnd_some hd321
            obtain ⟨_, G331, hc330, p326, c327, rfl, hor334, hn333⟩ := ih G312 a0 p_a1 c_a1 T_a1 a1 t_a1 (S315.view v_a1) (S315.tview w_a1) p310 c311 (xs293 ++ [x222]) (S315.oview (k := 0) rfl BS314 (ints_len1 rfl)) (BS314.ne rfl) xs323 h324
            obtain ⟨S332, B329⟩ := St.callG S322 BS314 hor334
            refine AO.c rfl (o_call (vs := [.int .i64 a0, .slice p_a1 a1.length c_a1, .slice p310 ((xs293 ++ [x222]).length) c311]) rfl Try.call76 hc330) ?_
            refine AO.p rfl (p_assign rfl) ?_
            refine AO.nil ?_
            refine AX.seq ?_
            refine AX.region ?_
            refine AO.p rfl (p_move rfl) ?_
            refine AO.p rfl (p_neqNilB Try.underlying31 rfl (B329.ne rfl) (Sb.isNone B329 hn333)) ?_
            refine AO.nil ?_
            refine AX.cond rfl (fun c335 => ?_) (fun c335 => ?_)
            · have hd336 := bif_t c335 hd325
              refine AX.seq ?_
              refine AX.region ?_
              refine AO.p rfl (p_move rfl) ?_
              refine AO.p rfl (p_assign rfl) ?_
              refine AO.nil ?_
              refine AX.ret ?_
              obtain ⟨k337, hd338⟩ := chk_some hd336
              obtain rfl := some_inj hd338
              have z339 : _ = r281 := hk286
              subst z339
              obtain rfl := some_inj hd283
              have S340 := S332.front 0 rfl
              exact ⟨.inr rfl, _, res1 rfl (rv_tmp rfl), p326, c327, rfl, .inl ⟨S340, B329⟩, (nil_pos k337)⟩
            · have hd341 := bif_f c335 hd325
              refine AX.skip ?_
              refine AX.region ?_
              refine AO.p rfl (p_move rfl) ?_
              obtain ⟨k342, hd343⟩ := chk_some hd341
              refine AO.p rfl (p_addE rfl rfl k342) ?_
              refine AO.p rfl (p_assign rfl) ?_
              refine AO.nil ?_
              obtain rfl := some_inj hd343
              have S345 := S332.keep 0
              exact ⟨x222 + 1, hk286, (x222 + 1), rfl, S345, Sub.cons' rfl rfl (Sub.cons' rfl rfl (Sub.cons' rfl rfl (Sub.cons' rfl rfl (Sub.nil _))))⟩
          · have hd346 := bif_f c320 hd318
            refine AX.skip ?_
            refine AX.region ?_
            refine AO.p rfl (p_move rfl) ?_
            obtain ⟨k347, hd348⟩ := chk_some hd346
            refine AO.p rfl (p_addE rfl rfl k347) ?_
            refine AO.p rfl (p_assign rfl) ?_
            refine AO.nil ?_
            obtain rfl := some_inj hd348
            have S350 := S315.keep 0
            exact ⟨x222 + 1, hk286, (x222 + 1), rfl, S350, Sub.cons' rfl rfl (Sub.cons' rfl rfl (Sub.cons' rfl rfl (Sub.cons' rfl rfl (Sub.nil _))))⟩
        · have hd351 := bif_f c291 ho285
          refine AX.exit ?_
          obtain rfl := some_inj hd351
          exact ⟨hk286, S287, Sub.nil _⟩
    · rintro t' G353 ⟨rfl, S352, hsub354⟩
      refine ⟨_, hsub354, ?_⟩
      refine AX.seq ?_
      refine AX.region ?_
      refine AO.p rfl (p_assign rfl) ?_
      refine AO.nil ?_
      refine AX.ret ?_
      obtain rfl := some_inj hd283
      have S355 : St [] H G353 (oseg none (ints []) :: _) := S352.nilseg 0
      exact ⟨.inr rfl, _, res1 rfl (rv_tmp rfl), none, 0, rfl, .inl ⟨S355, Sb.nil⟩, (fun _ => rfl)⟩

set_option maxHeartbeats 4000000 in
theorem W_spec_l03FindAdder : ∀ (fu : Nat) (H : AHeap) (a0 : Int) (p_a1 : Option Addr) (c_a1 : Nat) (T_a1 : Tb) (a1 : List (List Int)) (t_a1 : trows T_a1 = a1) (v_a1 : Vw H p_a1 a1.length c_a1 (tcells T_a1)) (w_a1 : TVw H T_a1) (p_a2 : Option Addr) (c_a2 : Nat) (a2 : List Int) (v_a2 : Vw H p_a2 a2.length c_a2 (ints a2)) (r0 : List Int) (r1 : Bool) (hd : D_spec_l03FindAdder fu a0 a1 a2 = some (r0, r1)), ∃ v G', ACall Try.prog 73 [.int .i64 a0, .slice p_a1 a1.length c_a1, .slice p_a2 a2.length c_a2] H v G' ∧ ∃ (p_r0 : Option Addr) (c_r0 : Nat), (v = .tuple #[.slice p_r0 r0.length c_r0, .bool r1]) ∧ ((St [] H G' [oseg p_r0 (ints r0)] ∧ Sb p_r0 r0.length c_r0 1) ∨ (p_r0 = p_a2 ∧ c_r0 = c_a2 ∧ r0 = a2 ∧ St [] H G' [])) := by
  intro fu
  induction fu with
  | zero => intros; rename_i hd; cases hd
  | succ fu ih =>
  intro H a0 p_a1 c_a1 T_a1 a1 t_a1 v_a1 w_a1 p_a2 c_a2 a2 v_a2 r0 r1 hd
  refine ACall.bodyX (args := [.int .i64 a0, .slice p_a1 a1.length c_a1, .slice p_a2 a2.length c_a2]) (N := 42) [(0, .int .i64 a0), (1, .slice p_a1 a1.length c_a1), (2, .slice p_a2 a2.length c_a2)] (fun v G' => ∃ (p_r0 : Option Addr) (c_r0 : Nat), (v = .tuple #[.slice p_r0 r0.length c_r0, .bool r1]) ∧ ((St [] H G' [oseg p_r0 (ints r0)] ∧ Sb p_r0 r0.length c_r0 1) ∨ (p_r0 = p_a2 ∧ c_r0 = c_a2 ∧ r0 = a2 ∧ St [] H G' []))) Try.func73 rfl rfl rfl rfl ?_
  unfold D_spec_l03FindAdder at hd
  have S0 : St [] H H [] := St.nil H
  refine AX.seq ?_
  refine AX.region ?_
  refine AO.p rfl (p_assign rfl) ?_
  refine AO.p rfl (p_assign rfl) ?_
  refine AO.nil ?_
  refine AX.seq ?_
  refine AX.seq ?_
  refine AX.region ?_
  refine AO.p rfl (p_move rfl) ?_
  refine AO.p rfl (p_len_slice rfl Try.underlying31) ?_
  refine AO.p rfl (p_move rfl) ?_
  refine AO.p rfl (p_len_slice rfl Try.underlying23) ?_
  refine AO.p rfl (p_eql rfl rfl) ?_
  refine AO.nil ?_
  refine AX.cond rfl (fun c100 => ?_) (fun c100 => ?_)
  · have hd101 := bif_t c100 hd
    refine AX.seq ?_
    refine AX.region ?_
    refine AO.p rfl (p_move rfl) ?_
    refine AO.p rfl (p_assign rfl) ?_
    refine AO.p rfl (p_assign rfl) ?_
    refine AO.nil ?_
    refine AX.ret ?_
    obtain ⟨rfl, rfl⟩ := Prod.mk.inj (some_inj hd101)
    exact ⟨.inr rfl, _, res2 rfl (rv_tmp rfl) (rv_tmp rfl), p_a2, c_a2, rfl, .inr ⟨rfl, rfl, rfl, S0.keep 0⟩⟩
  · have hd103 := bif_f c100 hd
    refine AX.skip ?_
    refine AX.seq ?_
    refine AX.seq ?_
    refine AX.region ?_
    refine AO.p rfl (p_assign rfl) ?_
    refine AO.nil ?_
    obtain ⟨r277, hl278, hd279⟩ := bnd_some hd103
    refine AX.cutS (fun t' H' => .inl () = r277 ∧ St [] H H' [] ∧ Am.Sub [] t') ?_ ?_
    · refine AX.block ?_
      refine AX.loopF (fun s' t' H' => ∃ (x219 : Int), x219 = s' ∧ St [] H H' [] ∧ Am.Sub [(0, .int .i64 a0), (1, .slice p_a1 a1.length c_a1), (2, .slice p_a2 a2.length c_a2), (8, .int .i64 x219)] t') hl278 ?_ ?_
      · skip
        exact ⟨1, rfl, S0, Sub.cons' rfl rfl (Sub.cons' rfl rfl (Sub.cons' rfl rfl (Sub.cons' rfl rfl (Sub.nil _))))⟩
      · rintro n280 _ t' G284 ⟨x219, rfl, S283, hsub285⟩ o286 ho281 hk282
        refine AX.sub hsub285 ?_
        unfold D_spec_l03FindAdder_s0 at ho281
        refine AX.seq ?_
        refine AX.seq ?_
        refine AX.region ?_
        refine AO.p rfl (p_move rfl) ?_
        refine AO.p rfl (p_move rfl) ?_
        refine AO.p rfl (p_lss rfl rfl) ?_
        refine AO.nil ?_
        refine AX.cond rfl (fun c287 => ?_) (fun c287 => ?_)
        · have hd288 := bif_t c287 ho281
          refine AX.skip ?_
          refine AX.seq ?_
          refine AX.block ?_
          refine AX.seq ?_
          refine AX.region ?_
          refine AO.p rfl (p_move rfl) ?_
          obtain ⟨xs289, h290, hd291⟩ := bnd_some hd288
          obtain ⟨_, G297, hc296, p292, c293, rfl, S298, B295⟩ := W_spec_l01Own fu G284 p_a2 c_a2 a2 (S283.view v_a2) xs289 h290
          have S299 := S283.call S298
          refine AO.c rfl (o_call (vs := [.slice p_a2 a2.length c_a2]) rfl Try.call122 hc296) ?_
          refine AO.p rfl (p_move rfl) ?_
          obtain ⟨G300, i301, hii301, hHG300, S302⟩ := S299.new (AObj.row false (ints [x219]))
          refine AO.c rfl (s_buildInts (i := i301) (vs := [(0, .int .i64 x219)]) (xs := [x219]) Try.underlying31 Try.sizeOf2 Try.zeroValue2 rfl rfl (by decide) rfl rfl hii301 hHG300) ?_
          obtain ⟨k304, hd305⟩ := chk_some hd291
          obtain ⟨p306, c307, G308, haG308, S309, Bp306⟩ := S302.app (k := 1) rfl B295 (ints [x219]) 1 (ints_len1 rfl)
          have S310 := S309.cellsEq (k := 1) (us' := ints (xs289 ++ [x219])) (ints_app _ _) rfl
          have BS310 : Sb p306 ((xs289 ++ [x219]).length) c307 1 := (show xs289.length + 1 = (xs289 ++ [x219]).length from len_app (a := xs289) (b := [x219]) rfl rfl) ▸ Bp306
          have S311 := S310.drop 0 rfl
          refine AO.c rfl (s_app (by_ := 8) (us := ints xs289) (vs := ints [x219]) Try.underlying31 Try.underlying31 Try.typeInfo2 Try.sizeOf2 Try.zeroValue2 rfl rfl rfl rfl rfl rfl rfl (S302.buf (k := 1) rfl B295 (ints_len1 rfl)) (S302.oview (k := 0) rfl (Sb.lit (n := 1) (by decide)) (ints_len1 rfl)) (ints_len1 rfl) ints_one k304 haG308 (show xs289.length + 1 = (xs289 ++ [x219]).length from len_app (a := xs289) (b := [x219]) rfl rfl)) ?_
          refine AO.p rfl (p_assign rfl) ?_
          refine AO.nil ?_
          refine AX.seq ?_
          refine AX.seq ?_
          refine AX.region ?_
          refine AO.p rfl (p_move rfl) ?_
          refine AO.p rfl (p_move rfl) ?_
          refine AO.p rfl (p_move rfl) ?_
          obtain ⟨b312, h313, hd314⟩ := bnd_some hd305
          refine AO.c rfl (o_call (vs := [.int .i64 a0, .slice p_a1 a1.length c_a1, .slice p306 ((xs289 ++ [x219]).length) c307]) rfl Try.call123 (W_spec_l03Adder fu G308 a0 p_a1 c_a1 T_a1 a1 t_a1 (S311.view v_a1) (S311.tview w_a1) p306 c307 (xs289 ++ [x219]) (S311.oview (k := 0) rfl BS310 (ints_len1 rfl)) b312 h313)) ?_
          refine AO.p rfl (p_not rfl) ?_
          refine AO.nil ?_
          refine AX.cond rfl (fun c316 => ?_) (fun c316 => ?_)
          · have hd317 := bif_t c316 hd314
            refine AX.exit ?_
            refine AX.region ?_
            refine AO.p rfl (p_move rfl) ?_
            obtain ⟨k318, hd319⟩ := chk_some hd317
            refine AO.p rfl (p_addE rfl rfl k318) ?_
            refine AO.p rfl (p_assign rfl) ?_
            refine AO.nil ?_
            obtain rfl := some_inj hd319
            have S321 := S311.keep 0
            exact ⟨x219 + 1, hk282, (x219 + 1), rfl, S321, Sub.cons' rfl rfl (Sub.cons' rfl rfl (Sub.cons' rfl rfl (Sub.cons' rfl rfl (Sub.nil _))))⟩
          · have hd322 := bif_f c316 hd314
            refine AX.skip ?_
            refine AX.seq ?_
            refine AX.region ?_
            refine AO.p rfl (p_move rfl) ?_
            refine AO.p rfl (p_move rfl) ?_
            refine AO.p rfl (p_move rfl) ?_
            have S323 := S311.front 0 rfl
            obtain ⟨⟨xs324, b325⟩, h326, hd327⟩ := bnd_some hd322
            obtain ⟨_, G333, hc332, p328, c329, rfl, hor335⟩ := ih G308 a0 p_a1 c_a1 T_a1 a1 t_a1 (S311.view v_a1) (S311.tview w_a1) p306 c307 (xs289 ++ [x219]) (S311.oview (k := 0) rfl BS310 (ints_len1 rfl)) xs324 b325 h326
            obtain ⟨S334, B331⟩ := St.callG S323 BS310 hor335
            refine AO.c rfl (o_call (vs := [.int .i64 a0, .slice p_a1 a1.length c_a1, .slice p306 ((xs289 ++ [x219]).length) c307]) rfl Try.call73 hc332) ?_
            refine AO.p rfl (p_move rfl) ?_
            refine AO.p rfl (p_extract rfl rfl) ?_
            refine AO.p rfl (p_extract rfl rfl) ?_
            refine AO.p rfl (p_assign rfl) ?_
            refine AO.p rfl (p_assign rfl) ?_
            refine AO.nil ?_
            refine AX.seq ?_
            refine AX.region ?_
            refine AO.p rfl (p_move rfl) ?_
            refine AO.nil ?_
            refine AX.cond rfl (fun c336 => ?_) (fun c336 => ?_)
            · have hd337 := bif_t c336 hd327
              refine AX.seq ?_
              refine AX.region ?_
              refine AO.p rfl (p_move rfl) ?_
              refine AO.p rfl (p_assign rfl) ?_
              refine AO.p rfl (p_assign rfl) ?_
              refine AO.nil ?_
              refine AX.ret ?_
              obtain rfl := some_inj hd337
              have z338 : _ = r277 := hk282
              subst z338
              obtain ⟨rfl, rfl⟩ := Prod.mk.inj (some_inj hd279)
              have S340 := S334.front 0 rfl
              exact ⟨.inr rfl, _, res2 rfl (rv_tmp rfl) (rv_tmp rfl), p328, c329, rfl, .inl ⟨S340, B331⟩⟩
            · have hd341 := bif_f c336 hd327
              refine AX.skip ?_
              refine AX.region ?_
              refine AO.p rfl (p_move rfl) ?_
              obtain ⟨k342, hd343⟩ := chk_some hd341
              refine AO.p rfl (p_addE rfl rfl k342) ?_
              refine AO.p rfl (p_assign rfl) ?_
              refine AO.nil ?_
              obtain rfl := some_inj hd343
              have S345 := S334.keep 0
              exact ⟨x219 + 1, hk282, (x219 + 1), rfl, S345, Sub.cons' rfl rfl (Sub.cons' rfl rfl (Sub.cons' rfl rfl (Sub.cons' rfl rfl (Sub.nil _))))⟩
        · have hd346 := bif_f c287 ho281
          refine AX.exit ?_
          obtain rfl := some_inj hd346
          exact ⟨hk282, S283, Sub.nil _⟩
    · rintro t' G348 ⟨rfl, S347, hsub349⟩
      refine ⟨_, hsub349, ?_⟩
      refine AX.seq ?_
      refine AX.region ?_
      refine AO.p rfl (p_assign rfl) ?_
      refine AO.p rfl (p_assign rfl) ?_
      refine AO.nil ?_
      refine AX.ret ?_
      obtain ⟨rfl, rfl⟩ := Prod.mk.inj (some_inj hd279)
      have S351 : St [] H G348 (oseg none (ints []) :: _) := S347.nilseg 0
      exact ⟨.inr rfl, _, res2 rfl (rv_tmp rfl) (rv_tmp rfl), none, 0, rfl, .inl ⟨S351, Sb.nil⟩⟩

end Go.Proofs.Ytnmbjedijgcncaa
