/-
  The program computes that, printed by a program. No condition.
-/
import Derived.Test.YtpaaoafgahbokaaDI
import Derived.Test.YtpaaoafgahbokaaWF
import Derived.Test.YtpaaoafgahbokaaProg
import Derived.KernelRfl
namespace Go.Proofs.Ytpaaoafgahbokaa
open Go Go.RowKit Am
set_option linter.unusedVariables false
set_option linter.unusedSimpArgs false
set_option maxRecDepth 20000
set_option maxHeartbeats 4000000 in
theorem W_spec_l04Empty (fu : Nat) (H : AHeap) (a0 : Int) (r0 : List (List Int)) (hd : D_spec_l04Empty fu a0 = some r0) : ∃ v G', ACall Try.prog 100 [.int .i64 a0] H v G' ∧ ∃ (p_r0 : Option Addr) (c_r0 : Nat) (T_r0 : Tb), (v = .slice p_r0 r0.length c_r0) ∧ St [] H G' [oseg p_r0 (tcells T_r0), tseg T_r0] ∧ Sb p_r0 r0.length c_r0 1 ∧ trows T_r0 = r0 ∧ TSb T_r0 := by
  refine ACall.bodyX (args := [.int .i64 a0]) (N := 27) [(0, .int .i64 a0)] (fun v G' => ∃ (p_r0 : Option Addr) (c_r0 : Nat) (T_r0 : Tb), (v = .slice p_r0 r0.length c_r0) ∧ St [] H G' [oseg p_r0 (tcells T_r0), tseg T_r0] ∧ Sb p_r0 r0.length c_r0 1 ∧ trows T_r0 = r0 ∧ TSb T_r0) Try.func100 rfl rfl rfl rfl ?_
  unfold D_spec_l04Empty at hd
  have S0 : St [] H H [] := St.nil H
  refine AX.seq ?_
  refine AX.region ?_
  refine AO.p rfl (p_assign rfl) ?_
  refine AO.nil ?_
  refine AX.seq ?_
  refine AX.region ?_
  obtain ⟨G100, i101, hii101, hHG100, S102⟩ := S0.new (AObj.row false (tcells []))
  have S102t := S102.nilseg 1
  refine AO.c rfl (s_build0 (i := i101) Try.underlying22 Try.sizeOf68 hii101 hHG100) ?_
  refine AO.p rfl (p_assign rfl) ?_
  refine AO.nil ?_
  refine AX.seq ?_
  refine AX.seq ?_
  refine AX.region ?_
  refine AO.p rfl (p_assign rfl) ?_
  refine AO.nil ?_
  obtain ⟨r560, hl561, hd562⟩ := bnd_some hd
  refine AX.cutQ (fun t' H' => ∃ (rs558 : List (List Int)) (p556 : Option Addr) (c557 : Nat) (T559 : Tb), rs558 = r560 ∧ St [] H H' [oseg p556 (tcells T559), tseg T559] ∧ trows T559 = rs558 ∧ TSb T559 ∧ Sb p556 (rs558.length) c557 1 ∧ Am.Sub [(3, .slice p556 rs558.length c557)] t') ?_ ?_
  · refine AX.block ?_
    refine AX.loopF (fun s' t' H' => ∃ (rs406 : List (List Int)) (x408 : Int) (p404 : Option Addr) (c405 : Nat) (T407 : Tb), (rs406, x408) = s' ∧ St [] H H' [oseg p404 (tcells T407), tseg T407] ∧ trows T407 = rs406 ∧ TSb T407 ∧ Sb p404 (rs406.length) c405 1 ∧ Am.Sub [(0, .int .i64 a0), (3, .slice p404 rs406.length c405), (4, .int .i64 x408)] t') hl561 ?_ ?_
    · skip
      have S563 := S102t.front 1 rfl
      have S564 := S563.front 1 rfl
      exact ⟨[], 0, (some (Addr.mk i101 0 none)), 0, [], rfl, S564, rfl, TSb.nil, (Sb.lit (n := 0) (by decide)), Sub.cons' rfl rfl (Sub.cons' rfl rfl (Sub.cons' rfl rfl (Sub.nil _)))⟩
    · rintro n565 _ t' G569 ⟨rs406, x408, p404, c405, T407, rfl, S568, tT407, sT407, Bo403, hsub570⟩ o571 ho566 hk567
      refine AX.sub hsub570 ?_
      unfold D_spec_l04Empty_s0 at ho566
      refine AX.seq ?_
      refine AX.seq ?_
      refine AX.region ?_
      refine AO.p rfl (p_move rfl) ?_
      refine AO.p rfl (p_move rfl) ?_
      refine AO.p rfl (p_lss rfl rfl) ?_
      refine AO.nil ?_
      refine AX.cond rfl (fun c572 => ?_) (fun c572 => ?_)
      · have hd573 := bif_t c572 ho566
        refine AX.skip ?_
        refine AX.seq ?_
        refine AX.block ?_
        refine AX.seq ?_
        refine AX.region ?_
        obtain ⟨G574, i575, hii575, hHG574, S576⟩ := S568.new (AObj.row false (ints []))
        refine AO.c rfl (s_build0 (i := i575) Try.underlying68 Try.sizeOf2 hii575 hHG574) ?_
        refine AO.p rfl (p_assign rfl) ?_
        refine AO.nil ?_
        refine AX.seq ?_
        refine AX.seq ?_
        refine AX.region ?_
        refine AO.p rfl (p_assign rfl) ?_
        refine AO.nil ?_
        obtain ⟨r657, hl658, hd659⟩ := bnd_some hd573
        refine AX.cutQ (fun t' H' => ∃ (xs656 : List Int) (p654 : Option Addr) (c655 : Nat), xs656 = r657 ∧ St [] H H' [oseg p404 (tcells T407), tseg T407, oseg p654 (ints xs656)] ∧ Sb p654 (xs656.length) c655 1 ∧ Am.Sub [(0, .int .i64 a0), (3, .slice p404 rs406.length c405), (4, .int .i64 x408), (5, .slice p654 xs656.length c655)] t') ?_ ?_
        · refine AX.block ?_
          refine AX.loopF (fun s' t' H' => ∃ (xs630 : List Int) (x631 : Int) (p628 : Option Addr) (c629 : Nat), (xs630, x631) = s' ∧ St [] H H' [oseg p404 (tcells T407), tseg T407, oseg p628 (ints xs630)] ∧ Sb p628 (xs630.length) c629 1 ∧ Am.Sub [(0, .int .i64 a0), (3, .slice p404 rs406.length c405), (4, .int .i64 x408), (5, .slice p628 xs630.length c629), (6, .int .i64 x631)] t') hl658 ?_ ?_
          · skip
            have S660 := S576.front 0 rfl
            have S661 := S660.front 2 rfl
            have S662 := S661.front 2 rfl
            exact ⟨[], 0, (some (Addr.mk i575 0 none)), 0, rfl, S662, (Sb.lit (n := 0) (by decide)), Sub.cons' rfl rfl (Sub.cons' rfl rfl (Sub.cons' rfl rfl (Sub.cons' rfl rfl (Sub.cons' rfl rfl (Sub.nil _)))))⟩
          · rintro n663 _ t' G667 ⟨xs630, x631, p628, c629, rfl, S666, Bo627, hsub668⟩ o669 ho664 hk665
            refine AX.sub hsub668 ?_
            unfold D_spec_l04Empty_s1 at ho664
            refine AX.seq ?_
            refine AX.seq ?_
            refine AX.region ?_
            refine AO.p rfl (p_move rfl) ?_
            refine AO.p rfl (p_move rfl) ?_
            refine AO.p rfl (p_lss rfl rfl) ?_
            refine AO.nil ?_
            refine AX.cond rfl (fun c670 => ?_) (fun c670 => ?_)
            · have hd671 := bif_t c670 ho664
              refine AX.skip ?_
              refine AX.seq ?_
              refine AX.block ?_
              refine AX.region ?_
              refine AO.p rfl (p_move rfl) ?_
              obtain ⟨G672, i673, hii673, hHG672, S674⟩ := S666.new (AObj.row false (ints [(-1)]))
              refine AO.c rfl (s_buildInts (i := i673) (vs := [(0, .int .i64 (-1))]) (xs := [(-1)]) Try.underlying68 Try.sizeOf2 Try.zeroValue2 rfl rfl (by decide) rfl rfl hii673 hHG672) ?_
              obtain ⟨k676, hd677⟩ := chk_some hd671
              obtain ⟨p678, c679, G680, haG680, S681, Bp678⟩ := S674.app (k := 3) rfl Bo627 (ints [(-1)]) 1 (ints_len1 rfl)
              have S682 := S681.cellsEq (k := 3) (us' := ints (xs630 ++ [(-1)])) (ints_app _ _) rfl
              have BS682 : Sb p678 ((xs630 ++ [(-1)]).length) c679 1 := (show xs630.length + 1 = (xs630 ++ [(-1)]).length from len_app (a := xs630) (b := [(-1)]) rfl rfl) ▸ Bp678
              have S683 := S682.drop 0 rfl
              refine AO.c rfl (s_app (by_ := 8) (us := ints xs630) (vs := ints [(-1)]) Try.underlying68 Try.underlying68 Try.typeInfo2 Try.sizeOf2 Try.zeroValue2 rfl rfl rfl rfl rfl rfl rfl (S674.buf (k := 3) rfl Bo627 (ints_len1 rfl)) (S674.oview (k := 0) rfl (Sb.lit (n := 1) (by decide)) (ints_len1 rfl)) (ints_len1 rfl) ints_one k676 haG680 (show xs630.length + 1 = (xs630 ++ [(-1)]).length from len_app (a := xs630) (b := [(-1)]) rfl rfl)) ?_
              refine AO.p rfl (p_assign rfl) ?_
              refine AO.nil ?_
              refine AX.region ?_
              refine AO.p rfl (p_move rfl) ?_
              obtain ⟨k684, hd685⟩ := chk_some hd677
              refine AO.p rfl (p_addE rfl rfl k684) ?_
              refine AO.p rfl (p_assign rfl) ?_
              refine AO.nil ?_
              obtain rfl := some_inj hd685
              have S687 := S683.front 2 rfl
              have S688 := S687.front 2 rfl
              have S689 := S688.front 2 rfl
              exact ⟨((xs630 ++ [(-1)]), x631 + 1), hk665, (xs630 ++ [(-1)]), (x631 + 1), p678, c679, rfl, S689, BS682, Sub.cons' rfl rfl (Sub.cons' rfl rfl (Sub.cons' rfl rfl (Sub.cons' rfl rfl (Sub.cons' rfl rfl (Sub.nil _)))))⟩
            · have hd690 := bif_f c670 ho664
              refine AX.exit ?_
              obtain rfl := some_inj hd690
              have S691 := S666.front 2 rfl
              have S692 := S691.front 2 rfl
              have S693 := S692.front 2 rfl
              exact ⟨xs630, p628, c629, hk665, S693, Bo627, Sub.cons' rfl rfl (Sub.cons' rfl rfl (Sub.cons' rfl rfl (Sub.cons' rfl rfl (Sub.nil _))))⟩
        · rintro t' G695 ⟨xs656, p654, c655, rfl, S694, Bo653, hsub696⟩
          refine AX.sub hsub696 ?_
          refine AX.region ?_
          refine AO.p rfl (p_move rfl) ?_
          refine AO.p rfl (p_move rfl) ?_
          obtain ⟨G697, i698, hii698, hHG697, S699⟩ := S694.new (AObj.row false (tcells [(p654, c655, xs656)]))
          have S701 := (S699.front 3 rfl).tone p654 c655 xs656 rfl
          refine AO.c rfl (s_buildT1 (i := i698) (X := [(p654, c655, xs656)]) (n := xs656.length) rfl Try.underlying22 Try.sizeOf68 Try.zeroValue68 rfl rfl hii698 hHG697) ?_
          obtain ⟨k702, hd703⟩ := chk_some hd659
          obtain ⟨p704, c705, G706, haG706, S707, Bp704⟩ := S701.app (k := 2) rfl Bo403 (tcells [(p654, c655, xs656)]) 1 (tc_len1 rfl rfl)
          have S708 := S707.cellsEq (k := 2) (us' := tcells (T407 ++ [(p654, c655, xs656)])) (tcells_app _ _).symm rfl
          have BS708 : Sb p704 ((rs406 ++ [xs656]).length) c705 1 := (show rs406.length + 1 = (rs406 ++ [xs656]).length from len_app (a := rs406) (b := [xs656]) rfl rfl) ▸ Bp704
          have S709 := S708.front 0 rfl
          have S710 := (S709.front 3 rfl).tmerge
          have S711 := S710.drop 1 rfl
          refine AO.c rfl (s_app (by_ := 24) (us := tcells T407) (vs := tcells [(p654, c655, xs656)]) Try.underlying22 Try.underlying22 Try.typeInfo68 Try.sizeOf68 Try.zeroValue68 rfl rfl rfl rfl rfl rfl rfl (S701.buf (k := 2) rfl Bo403 (tc_len1 tT407 rfl)) (S701.oview (k := 1) rfl (Sb.lit (n := 1) (by decide)) (tc_len1 rfl rfl)) (tc_len1 rfl rfl) tcells_one k702 haG706 (show rs406.length + 1 = (rs406 ++ [xs656]).length from len_app (a := rs406) (b := [xs656]) rfl rfl)) ?_
          refine AO.p rfl (p_assign rfl) ?_
          refine AO.nil ?_
          refine AX.region ?_
          refine AO.p rfl (p_move rfl) ?_
          obtain ⟨k712, hd713⟩ := chk_some hd703
          refine AO.p rfl (p_addE rfl rfl k712) ?_
          refine AO.p rfl (p_assign rfl) ?_
          refine AO.nil ?_
          obtain rfl := some_inj hd713
          have S715 := S711.front 0 rfl
          have S716 := S715.front 1 rfl
          exact ⟨((rs406 ++ [xs656]), x408 + 1), hk567, (rs406 ++ [xs656]), (x408 + 1), p704, c705, (T407 ++ [(p654, c655, xs656)]), rfl, S716, (trows_apps tT407 rfl), (TSb.app sT407 (TSb.one (sb_len rfl Bo653))), BS708, Sub.cons' rfl rfl (Sub.cons' rfl rfl (Sub.cons' rfl rfl (Sub.nil _)))⟩
      · have hd717 := bif_f c572 ho566
        refine AX.exit ?_
        obtain rfl := some_inj hd717
        have S718 := S568.front 1 rfl
        have S719 := S718.front 1 rfl
        exact ⟨rs406, p404, c405, T407, hk567, S719, tT407, sT407, Bo403, Sub.cons' rfl rfl (Sub.nil _)⟩
  · rintro t' G721 ⟨rs558, p556, c557, T559, rfl, S720, tT559, sT559, Bo555, hsub722⟩
    refine AX.sub hsub722 ?_
    refine AX.seq ?_
    refine AX.region ?_
    refine AO.p rfl (p_move rfl) ?_
    refine AO.p rfl (p_assign rfl) ?_
    refine AO.nil ?_
    refine AX.ret ?_
    obtain rfl := some_inj hd562
    have S723 := S720.front 1 rfl
    have S724 := S723.front 1 rfl
    exact ⟨.inr rfl, _, res1 rfl (rv_tmp rfl), p556, c557, T559, rfl, S724, Bo555, tT559, sT559⟩

set_option maxHeartbeats 4000000 in
theorem W_spec_SquareOfSchedules (fu : Nat) (H : AHeap) (a0_0 : Int) (p_a0_1 : Option Addr) (c_a0_1 : Nat) (a0_1 : List (List Int)) (a_a0_1 : All 14 a0_1) (v_a0_1 : Vw H p_a0_1 a0_1.length c_a0_1 (ints a0_1.flatten)) (a1_0 : Int) (p_a1_1 : Option Addr) (c_a1_1 : Nat) (a1_1 : List (List Int)) (a_a1_1 : All 14 a1_1) (v_a1_1 : Vw H p_a1_1 a1_1.length c_a1_1 (ints a1_1.flatten)) (r0 : Int) (r1 : List (List Int)) (r2 : Int) (hd : D_spec_SquareOfSchedules fu a0_0 a0_1 a1_0 a1_1 = some (r0, r1, r2)) : ∃ v G', ACall Try.prog 46 [.agg [.int .i64 a0_0, .slice p_a0_1 a0_1.length c_a0_1].toArray, .agg [.int .i64 a1_0, .slice p_a1_1 a1_1.length c_a1_1].toArray] H v G' ∧ ∃ (p_r1 : Option Addr) (c_r1 : Nat) (T_r1 : Tb), (v = .tuple #[.agg [.int .i64 r0, .slice p_r1 r1.length c_r1].toArray, .int .i64 r2]) ∧ St [] H G' [oseg p_r1 (tcells T_r1), tseg T_r1] ∧ Sb p_r1 r1.length c_r1 1 ∧ trows T_r1 = r1 ∧ TSb T_r1 := by
  refine ACall.bodyX (args := [.agg [.int .i64 a0_0, .slice p_a0_1 a0_1.length c_a0_1].toArray, .agg [.int .i64 a1_0, .slice p_a1_1 a1_1.length c_a1_1].toArray]) (N := 109) [(0, .agg [.int .i64 a0_0, .slice p_a0_1 a0_1.length c_a0_1].toArray), (1, .agg [.int .i64 a1_0, .slice p_a1_1 a1_1.length c_a1_1].toArray)] (fun v G' => ∃ (p_r1 : Option Addr) (c_r1 : Nat) (T_r1 : Tb), (v = .tuple #[.agg [.int .i64 r0, .slice p_r1 r1.length c_r1].toArray, .int .i64 r2]) ∧ St [] H G' [oseg p_r1 (tcells T_r1), tseg T_r1] ∧ Sb p_r1 r1.length c_r1 1 ∧ trows T_r1 = r1 ∧ TSb T_r1) Try.func46 rfl rfl rfl rfl ?_
  unfold D_spec_SquareOfSchedules at hd
  have S0 : St [] H H [] := St.nil H
  refine AX.seq ?_
  refine AX.region ?_
  obtain ⟨G100, i101, hii101, hHG100, S102⟩ := S0.new (AObj.row false ([.int .i64 a0_0, .slice p_a0_1 a0_1.length c_a0_1]))
  refine AO.c rfl (s_box (i := i101) (cs := [.int .i64 a0_0, .slice p_a0_1 a0_1.length c_a0_1]) rfl hii101 rfl hHG100) ?_
  obtain ⟨G104, i105, hii105, hHG104, S106⟩ := S102.new (AObj.row false ([.int .i64 a1_0, .slice p_a1_1 a1_1.length c_a1_1]))
  refine AO.c rfl (s_box (i := i105) (cs := [.int .i64 a1_0, .slice p_a1_1 a1_1.length c_a1_1]) rfl hii105 rfl hHG104) ?_
  obtain ⟨G108, i109, hii109, hHG108, S110⟩ := S106.new (AObj.row false ([.int .i64 0, .slice none 0 0]))
  refine AO.c rfl (s_alloc (i := i109) (cs := [.int .i64 0, .slice none 0 0]) Try.zeroValue26 rfl rfl hii109 hHG108) ?_
  refine AO.p rfl (p_assign rfl) ?_
  refine AO.nil ?_
  refine AX.seq ?_
  obtain ⟨r127, hb128, hd129⟩ := bnd_some hd
  refine AX.cut (fun t' H' => ∃ (b126 : Bool), b126 = r127 ∧ St [] H H' [[(i101, AObj.row false ([.int .i64 a0_0, .slice p_a0_1 a0_1.length c_a0_1]))], [(i105, AObj.row false ([.int .i64 a1_0, .slice p_a1_1 a1_1.length c_a1_1]))], [(i109, AObj.row false ([.int .i64 0, .slice none 0 0]))]] ∧ Am.Sub [(2, .pointer (some ⟨i101, 0, none⟩)), (3, .pointer (some ⟨i105, 0, none⟩)), (4, .pointer (some ⟨i109, 0, none⟩)), (20, .bool b126)] t') ?_ ?_
  · skip
    refine AX.region ?_
    refine AO.c rfl (s_loadN (vs := [.int .i64 a0_0, .slice p_a0_1 a0_1.length c_a0_1]) Try.isAgg39 Try.sizeOf39 rfl rfl (row_cells (S110.get (k := 2) rfl))) ?_
    obtain ⟨b130, h131, hd132⟩ := bnd_some hb128
    refine AO.c rfl (o_call (vs := [.agg [.int .i64 a0_0, .slice p_a0_1 a0_1.length c_a0_1].toArray]) rfl Try.call63 (W_spec_l01Is fu G108 a0_0 p_a0_1 c_a0_1 a0_1 a_a0_1 (S110.view v_a0_1) b130 h131)) ?_
    refine AO.p rfl (p_not rfl) ?_
    refine AO.p rfl (p_move rfl) ?_
    refine AO.cases (d := 16) rfl (fun c134 => ?_) (fun c134 => ?_)
    · have hd135 := bif_t c134 hd132
      refine AO.gn rfl rfl rfl ?_
      refine AO.gn rfl rfl rfl ?_
      refine AO.gn rfl rfl rfl ?_
      refine AO.p rfl (p_pickT rfl rfl) ?_
      refine AO.nil ?_
      have S136 := S110.front 0 rfl
      have S137 := S136.front 1 rfl
      have S138 := S137.front 2 rfl
      exact ⟨true, (some_inj hd135), S138, Sub.cons' rfl rfl (Sub.cons' rfl rfl (Sub.cons' rfl rfl (Sub.cons' rfl rfl (Sub.nil _))))⟩
    · have hd139 := bif_f c134 hd132
      refine AO.gc rfl rfl rfl (s_loadN (vs := [.int .i64 a1_0, .slice p_a1_1 a1_1.length c_a1_1]) Try.isAgg39 Try.sizeOf39 rfl rfl (row_cells (S110.get (k := 1) rfl))) ?_
      obtain ⟨b140, h141, hd142⟩ := bnd_some hd139
      refine AO.gc rfl rfl rfl (o_call (vs := [.agg [.int .i64 a1_0, .slice p_a1_1 a1_1.length c_a1_1].toArray]) rfl Try.call63 (W_spec_l01Is fu G108 a1_0 p_a1_1 c_a1_1 a1_1 a_a1_1 (S110.view v_a1_1) b140 h141)) ?_
      refine AO.gp rfl rfl rfl (p_not rfl) ?_
      refine AO.p rfl (p_pickF rfl rfl) ?_
      refine AO.nil ?_
      have S144 := S110.front 0 rfl
      have S145 := S144.front 1 rfl
      have S146 := S145.front 2 rfl
      exact ⟨(!b140), (some_inj hd142), S146, Sub.cons' rfl rfl (Sub.cons' rfl rfl (Sub.cons' rfl rfl (Sub.cons' rfl rfl (Sub.nil _))))⟩
  · rintro t' G148 ⟨b126, rfl, S147, hsub149⟩
    refine AX.sub hsub149 ?_
    refine AX.cond rfl (fun c150 => ?_) (fun c150 => ?_)
    · have hd151 := bif_t c150 hd129
      refine AX.seq ?_
      refine AX.region ?_
      refine AO.p rfl (p_build2 (vs := []) (cs := [.int .i64 0, .slice none 0 0]) Try.underlying26 rfl rfl rfl Try.sizeOf2 Try.sizeOf22 Try.zeroValue26 rfl rfl rfl rfl rfl) ?_
      obtain ⟨G152, hHG152, S153⟩ := S147.set (k := 2) (i := i109) rfl (AObj.row false ([.int .i64 0, .slice none 0 0]))
      refine AO.s (s_storeAll (vs := [.int .i64 0, .slice none 0 0]) Try.sizeOf26 rfl rfl (ones_list rfl) (S147.get (k := 2) rfl) rfl rfl hHG152) ?_
      refine AO.p rfl (p_assign rfl) ?_
      refine AO.nil ?_
      refine AX.ret ?_
      obtain ⟨rfl, z154⟩ := Prod.mk.inj (some_inj hd151)
      obtain ⟨rfl, rfl⟩ := Prod.mk.inj z154
      have S156 : St [] H G152 (tseg [] :: _) := S153.nilseg 0
      have S157 : St [] H G152 (oseg none (tcells []) :: _) := S156.nilseg 0
      have S158 := S157.keep 2
      exact ⟨.inr rfl, _, res2 rfl (rv_cell (vs := [.int .i64 0, .slice none 0 0]) rfl Try.isAgg26 Try.sizeOf26 rfl (row_cells (S153.get (k := 2) rfl))) (rv_tmp rfl), none, 0, [], rfl, S158, Sb.nil, rfl, TSb.nil⟩
    · have hd159 := bif_f c150 hd129
      refine AX.skip ?_
      refine AX.seq ?_
      refine AX.region ?_
      refine AO.p rfl (s_fieldAddr Try.underlying39 rfl Try.sizeOf2 (by decide) rfl rfl) ?_
      refine AO.c rfl (s_load Try.isAgg2 rfl (row_cell (S147.get (k := 0) rfl) rfl)) ?_
      obtain ⟨k160, hd161⟩ := chk_some hd159
      refine AO.p rfl (p_subE rfl rfl k160) ?_
      refine AO.p rfl (p_assign rfl) ?_
      refine AO.nil ?_
      refine AX.seq ?_
      refine AX.cut (fun t' H' => G148 = H' ∧ Am.Sub [(2, .pointer (some ⟨i101, 0, none⟩)), (3, .pointer (some ⟨i105, 0, none⟩)), (4, .pointer (some ⟨i109, 0, none⟩)), (6, .int .i64 (a0_0 - 1)), (48, .bool ((decide ((a0_0 - 1).tmod 2 = 0)) || ((!decide (a1_0 = a0_0)) || ((!decide (((a0_1.length : Nat) : Int) = a0_0 - 1)) || (!decide (((a1_1.length : Nat) : Int) = a0_0 - 1))))))] t') ?_ ?_
      · skip
        refine AX.region ?_
        refine AO.p rfl (p_move rfl) ?_
        refine AO.p rfl (p_remE rfl rfl (by decide)) ?_
        refine AO.p rfl (p_eql rfl rfl) ?_
        refine AO.p rfl (p_move rfl) ?_
        refine AO.cases (d := 28) rfl (fun c171 => ?_) (fun c171 => ?_)
        · skip
          refine AO.gn rfl rfl rfl ?_
          refine AO.gn rfl rfl rfl ?_
          refine AO.gn rfl rfl rfl ?_
          refine AO.gn rfl rfl rfl ?_
          refine AO.gn rfl rfl rfl ?_
          refine AO.p rfl (p_pickT rfl rfl) ?_
          refine AO.p rfl (p_move rfl) ?_
          refine AO.gn rfl rfl rfl ?_
          refine AO.gn rfl rfl rfl ?_
          refine AO.gn rfl rfl rfl ?_
          refine AO.gn rfl rfl rfl ?_
          refine AO.gn rfl rfl rfl ?_
          refine AO.p rfl (p_pickT rfl rfl) ?_
          refine AO.p rfl (p_move rfl) ?_
          refine AO.gn rfl rfl rfl ?_
          refine AO.gn rfl rfl rfl ?_
          refine AO.gn rfl rfl rfl ?_
          refine AO.gn rfl rfl rfl ?_
          refine AO.gn rfl rfl rfl ?_
          refine AO.p rfl (p_pickT rfl rfl) ?_
          refine AO.nil ?_
          exact ⟨rfl, Sub.cons' rfl rfl (Sub.cons' rfl rfl (Sub.cons' rfl rfl (Sub.cons' rfl rfl (Sub.cons' rfl (bool_eq (by simp only [c171, Bool.true_and, Bool.false_and, Bool.and_true, Bool.and_false, Bool.true_or, Bool.false_or, Bool.or_true, Bool.or_false, Bool.not_true, Bool.not_false, cond_true, cond_false])) (Sub.nil _)))))⟩
        · skip
          refine AO.gp rfl rfl rfl (s_fieldAddr Try.underlying39 rfl Try.sizeOf2 (by decide) rfl rfl) ?_
          refine AO.gc rfl rfl rfl (s_load Try.isAgg2 rfl (row_cell (S147.get (k := 1) rfl) rfl)) ?_
          refine AO.gp rfl rfl rfl (s_fieldAddr Try.underlying39 rfl Try.sizeOf2 (by decide) rfl rfl) ?_
          refine AO.gc rfl rfl rfl (s_load Try.isAgg2 rfl (row_cell (S147.get (k := 0) rfl) rfl)) ?_
          refine AO.gp rfl rfl rfl (p_neq rfl rfl) ?_
          refine AO.p rfl (p_pickF rfl rfl) ?_
          refine AO.p rfl (p_move rfl) ?_
          refine AO.cases (d := 35) rfl (fun c172 => ?_) (fun c172 => ?_)
          · skip
            refine AO.gn rfl rfl rfl ?_
            refine AO.gn rfl rfl rfl ?_
            refine AO.gn rfl rfl rfl ?_
            refine AO.gn rfl rfl rfl ?_
            refine AO.gn rfl rfl rfl ?_
            refine AO.p rfl (p_pickT rfl rfl) ?_
            refine AO.p rfl (p_move rfl) ?_
            refine AO.gn rfl rfl rfl ?_
            refine AO.gn rfl rfl rfl ?_
            refine AO.gn rfl rfl rfl ?_
            refine AO.gn rfl rfl rfl ?_
            refine AO.gn rfl rfl rfl ?_
            refine AO.p rfl (p_pickT rfl rfl) ?_
            refine AO.nil ?_
            exact ⟨rfl, Sub.cons' rfl rfl (Sub.cons' rfl rfl (Sub.cons' rfl rfl (Sub.cons' rfl rfl (Sub.cons' rfl (bool_eq (by simp only [c171, c172, Bool.true_and, Bool.false_and, Bool.and_true, Bool.and_false, Bool.true_or, Bool.false_or, Bool.or_true, Bool.or_false, Bool.not_true, Bool.not_false, cond_true, cond_false])) (Sub.nil _)))))⟩
          · skip
            refine AO.gp rfl rfl rfl (s_fieldAddr Try.underlying39 rfl Try.sizeOf37 (by decide) rfl rfl) ?_
            refine AO.gc rfl rfl rfl (s_load Try.isAgg37 rfl (row_cell (S147.get (k := 0) rfl) rfl)) ?_
            refine AO.gp rfl rfl rfl (p_len_slice rfl Try.underlying37) ?_
            refine AO.gp rfl rfl rfl (p_move rfl) ?_
            refine AO.gp rfl rfl rfl (p_neq rfl rfl) ?_
            refine AO.p rfl (p_pickF rfl rfl) ?_
            refine AO.p rfl (p_move rfl) ?_
            refine AO.cases (d := 42) rfl (fun c173 => ?_) (fun c173 => ?_)
            · skip
              refine AO.gn rfl rfl rfl ?_
              refine AO.gn rfl rfl rfl ?_
              refine AO.gn rfl rfl rfl ?_
              refine AO.gn rfl rfl rfl ?_
              refine AO.gn rfl rfl rfl ?_
              refine AO.p rfl (p_pickT rfl rfl) ?_
              refine AO.nil ?_
              exact ⟨rfl, Sub.cons' rfl rfl (Sub.cons' rfl rfl (Sub.cons' rfl rfl (Sub.cons' rfl rfl (Sub.cons' rfl (bool_eq (by simp only [c171, c172, c173, Bool.true_and, Bool.false_and, Bool.and_true, Bool.and_false, Bool.true_or, Bool.false_or, Bool.or_true, Bool.or_false, Bool.not_true, Bool.not_false, cond_true, cond_false])) (Sub.nil _)))))⟩
            · skip
              refine AO.gp rfl rfl rfl (s_fieldAddr Try.underlying39 rfl Try.sizeOf37 (by decide) rfl rfl) ?_
              refine AO.gc rfl rfl rfl (s_load Try.isAgg37 rfl (row_cell (S147.get (k := 1) rfl) rfl)) ?_
              refine AO.gp rfl rfl rfl (p_len_slice rfl Try.underlying37) ?_
              refine AO.gp rfl rfl rfl (p_move rfl) ?_
              refine AO.gp rfl rfl rfl (p_neq rfl rfl) ?_
              refine AO.p rfl (p_pickF rfl rfl) ?_
              refine AO.nil ?_
              exact ⟨rfl, Sub.cons' rfl rfl (Sub.cons' rfl rfl (Sub.cons' rfl rfl (Sub.cons' rfl rfl (Sub.cons' rfl (bool_eq (by simp only [c171, c172, c173, Bool.true_and, Bool.false_and, Bool.and_true, Bool.and_false, Bool.true_or, Bool.false_or, Bool.or_true, Bool.or_false, Bool.not_true, Bool.not_false, cond_true, cond_false])) (Sub.nil _)))))⟩
      · rintro t' _ ⟨rfl, hsub174⟩
        refine AX.sub hsub174 ?_
        refine AX.cond rfl (fun c175 => ?_) (fun c175 => ?_)
        · have hd176 := bif_t c175 hd161
          refine AX.seq ?_
          refine AX.region ?_
          refine AO.p rfl (p_build2 (vs := []) (cs := [.int .i64 0, .slice none 0 0]) Try.underlying26 rfl rfl rfl Try.sizeOf2 Try.sizeOf22 Try.zeroValue26 rfl rfl rfl rfl rfl) ?_
          obtain ⟨G177, hHG177, S178⟩ := S147.set (k := 2) (i := i109) rfl (AObj.row false ([.int .i64 0, .slice none 0 0]))
          refine AO.s (s_storeAll (vs := [.int .i64 0, .slice none 0 0]) Try.sizeOf26 rfl rfl (ones_list rfl) (S147.get (k := 2) rfl) rfl rfl hHG177) ?_
          refine AO.p rfl (p_assign rfl) ?_
          refine AO.nil ?_
          refine AX.ret ?_
          obtain ⟨rfl, z179⟩ := Prod.mk.inj (some_inj hd176)
          obtain ⟨rfl, rfl⟩ := Prod.mk.inj z179
          have S181 : St [] H G177 (tseg [] :: _) := S178.nilseg 0
          have S182 : St [] H G177 (oseg none (tcells []) :: _) := S181.nilseg 0
          have S183 := S182.keep 2
          exact ⟨.inr rfl, _, res2 rfl (rv_cell (vs := [.int .i64 0, .slice none 0 0]) rfl Try.isAgg26 Try.sizeOf26 rfl (row_cells (S178.get (k := 2) rfl))) (rv_tmp rfl), none, 0, [], rfl, S183, Sb.nil, rfl, TSb.nil⟩
        · have hd184 := bif_f c175 hd161
          refine AX.skip ?_
          refine AX.seq ?_
          refine AX.region ?_
          refine AO.p rfl (p_move rfl) ?_
          refine AO.p rfl (p_move rfl) ?_
          obtain ⟨rs185, h186, hd187⟩ := bnd_some hd184
          obtain ⟨_, G196, hc195, p188, c189, T192, rfl, S197, B191, t193, s194⟩ := W_spec_l04Empty fu G148 (a0_0 - 1) rs185 h186
          have S198 := S147.call S197
          refine AO.c rfl (o_call (vs := [.int .i64 (a0_0 - 1)]) rfl Try.call100 hc195) ?_
          refine AO.p rfl (p_build2 (vs := [(0, .int .i64 (a0_0 - 1)), (1, .slice p188 rs185.length c189)]) (cs := [.int .i64 (a0_0 - 1), .slice p188 rs185.length c189]) Try.underlying26 rfl rfl rfl Try.sizeOf2 Try.sizeOf22 Try.zeroValue26 rfl rfl rfl rfl rfl) ?_
          obtain ⟨G199, i200, hii200, hHG199, S201⟩ := S198.new (AObj.row false ([.int .i64 0, .slice none 0 0]))
          refine AO.c rfl (s_alloc (i := i200) (cs := [.int .i64 0, .slice none 0 0]) Try.zeroValue26 rfl rfl hii200 hHG199) ?_
          obtain ⟨G203, hHG203, S204⟩ := S201.set (k := 0) (i := i200) rfl (AObj.row false ([.int .i64 (a0_0 - 1), .slice p188 rs185.length c189]))
          refine AO.s (s_storeAll (vs := [.int .i64 (a0_0 - 1), .slice p188 rs185.length c189]) Try.sizeOf26 rfl rfl (ones_list rfl) (S201.get (k := 0) rfl) rfl rfl hHG203) ?_
          refine AO.nil ?_
          refine AX.seq ?_
          refine AX.seq ?_
          refine AX.region ?_
          refine AO.p rfl (p_assign rfl) ?_
          refine AO.nil ?_
          obtain ⟨r4821, hl4822, hd4823⟩ := bnd_some hd187
          refine AX.cutQ (fun t' H' => ∃ (rs4819 : List (List Int)) (T4820 : Tb), .inl rs4819 = r4821 ∧ St [] H H' [[(i109, AObj.row false ([.int .i64 0, .slice none 0 0]))], [(i200, AObj.row false ([.int .i64 (a0_0 - 1), .slice p188 rs185.length c189]))], oseg p188 (tcells T4820), tseg T4820] ∧ rs4819.length = rs185.length ∧ trows T4820 = rs4819 ∧ TSb T4820 ∧ Am.Sub [(4, .pointer (some ⟨i109, 0, none⟩)), (7, .pointer (some ⟨i200, 0, none⟩))] t') ?_ ?_
          · refine AX.block ?_
            refine AX.loopF (fun s' t' H' => ∃ (rs3283 : List (List Int)) (x3285 : Int) (T3284 : Tb), (rs3283, x3285) = s' ∧ St [] H H' [[(i101, AObj.row false ([.int .i64 a0_0, .slice p_a0_1 a0_1.length c_a0_1]))], [(i105, AObj.row false ([.int .i64 a1_0, .slice p_a1_1 a1_1.length c_a1_1]))], [(i109, AObj.row false ([.int .i64 0, .slice none 0 0]))], [(i200, AObj.row false ([.int .i64 (a0_0 - 1), .slice p188 rs185.length c189]))], oseg p188 (tcells T3284), tseg T3284] ∧ rs3283.length = rs185.length ∧ trows T3284 = rs3283 ∧ TSb T3284 ∧ Am.Sub [(2, .pointer (some ⟨i101, 0, none⟩)), (3, .pointer (some ⟨i105, 0, none⟩)), (4, .pointer (some ⟨i109, 0, none⟩)), (6, .int .i64 (a0_0 - 1)), (7, .pointer (some ⟨i200, 0, none⟩)), (8, .int .i64 x3285)] t') hl4822 ?_ ?_
            · skip
              have S4824 := S204.front 2 rfl
              have S4825 := S4824.front 2 rfl
              have S4826 := S4825.front 2 rfl
              have S4827 := S4826.front 5 rfl
              have S4828 := S4827.front 5 rfl
              have S4829 := S4828.front 5 rfl
              exact ⟨rs185, 0, T192, rfl, S4829, rfl, t193, s194, Sub.cons' rfl rfl (Sub.cons' rfl rfl (Sub.cons' rfl rfl (Sub.cons' rfl rfl (Sub.cons' rfl rfl (Sub.cons' rfl rfl (Sub.nil _))))))⟩
            · rintro n4830 _ t' G4834 ⟨rs3283, x3285, T3284, rfl, S4833, lrs3283, tT3284, sT3284, hsub4835⟩ o4836 ho4831 hk4832
              refine AX.sub hsub4835 ?_
              unfold D_spec_SquareOfSchedules_s0 at ho4831
              refine AX.seq ?_
              refine AX.seq ?_
              refine AX.region ?_
              refine AO.p rfl (p_move rfl) ?_
              refine AO.p rfl (p_move rfl) ?_
              refine AO.p rfl (p_lss rfl rfl) ?_
              refine AO.nil ?_
              refine AX.cond rfl (fun c4837 => ?_) (fun c4837 => ?_)
              · have hd4838 := bif_t c4837 ho4831
                refine AX.skip ?_
                refine AX.seq ?_
                refine AX.block ?_
                refine AX.seq ?_
                refine AX.region ?_
                refine AO.p rfl (s_fieldAddr Try.underlying26 rfl Try.sizeOf22 (by decide) rfl rfl) ?_
                refine AO.c rfl (s_load Try.isAgg22 rfl (row_cell (S4833.get (k := 3) rfl) rfl)) ?_
                refine AO.p rfl (p_move rfl) ?_
                obtain ⟨k4839, hd4840⟩ := chk_some hd4838
                refine AO.p rfl (s_indexV (q := x3285.toNat) Try.underlying22 Try.sizeOf68 rfl (B191.at (inR_pos k4839)) rfl k4839 (z1 _)) ?_
                obtain ⟨p4841, c4842, e4843, f4844⟩ := tget tT3284 (lt_len lrs3283 (inR_lt k4839))
                refine AO.c rfl (s_load Try.isAgg68 rfl (row_cell (S4833.oat (k := 4) rfl (B191.at (inR_pos k4839))) f4844)) ?_
                refine AO.p rfl (p_assign rfl) ?_
                refine AO.nil ?_
                refine AX.seq ?_
                refine AX.region ?_
                refine AO.p rfl (p_assign rfl) ?_
                refine AO.nil ?_
                obtain ⟨r5976, hl5977, hd5978⟩ := bnd_some hd4840
                refine AX.cutQ (fun t' H' => ∃ (rs5974 : List (List Int)) (T5975 : Tb), .inl rs5974 = r5976 ∧ St [] H H' [[(i101, AObj.row false ([.int .i64 a0_0, .slice p_a0_1 a0_1.length c_a0_1]))], [(i105, AObj.row false ([.int .i64 a1_0, .slice p_a1_1 a1_1.length c_a1_1]))], [(i109, AObj.row false ([.int .i64 0, .slice none 0 0]))], [(i200, AObj.row false ([.int .i64 (a0_0 - 1), .slice p188 rs185.length c189]))], oseg p188 (tcells T5975), tseg T5975] ∧ rs5974.length = rs185.length ∧ trows T5975 = rs5974 ∧ TSb T5975 ∧ Am.Sub [(2, .pointer (some ⟨i101, 0, none⟩)), (3, .pointer (some ⟨i105, 0, none⟩)), (4, .pointer (some ⟨i109, 0, none⟩)), (6, .int .i64 (a0_0 - 1)), (7, .pointer (some ⟨i200, 0, none⟩)), (8, .int .i64 x3285)] t') ?_ ?_
                · refine AX.block ?_
                  refine AX.loopF (fun s' t' H' => ∃ (rs5598 : List (List Int)) (x5601 : Int) (T5599 : Tb), (rs5598, x5601) = s' ∧ St [] H H' [[(i101, AObj.row false ([.int .i64 a0_0, .slice p_a0_1 a0_1.length c_a0_1]))], [(i105, AObj.row false ([.int .i64 a1_0, .slice p_a1_1 a1_1.length c_a1_1]))], [(i109, AObj.row false ([.int .i64 0, .slice none 0 0]))], [(i200, AObj.row false ([.int .i64 (a0_0 - 1), .slice p188 rs185.length c189]))], oseg p188 (tcells T5599), tseg T5599] ∧ rs5598.length = rs185.length ∧ trows T5599 = rs5598 ∧ TSb T5599 ∧ T5599[x3285.toNat]? = some (p4841, c4842, (rw_ rs5598 x3285.toNat)) ∧ (rw_ rs5598 x3285.toNat).length = (rw_ rs3283 x3285.toNat).length ∧ Am.Sub [(2, .pointer (some ⟨i101, 0, none⟩)), (3, .pointer (some ⟨i105, 0, none⟩)), (4, .pointer (some ⟨i109, 0, none⟩)), (6, .int .i64 (a0_0 - 1)), (7, .pointer (some ⟨i200, 0, none⟩)), (8, .int .i64 x3285), (9, .slice p4841 ((rw_ rs3283 x3285.toNat).length) c4842), (10, .int .i64 x5601)] t') hl5977 ?_ ?_
                  · skip
                    have S5979 := S4833.front 5 rfl
                    have S5980 := S5979.front 5 rfl
                    have S5981 := S5980.front 5 rfl
                    have S5982 := S5981.front 5 rfl
                    have S5983 := S5982.front 5 rfl
                    have S5984 := S5983.front 5 rfl
                    exact ⟨rs3283, 0, T3284, rfl, S5984, lrs3283, tT3284, sT3284, (t_rw tT3284 e4843), (t_rwl (p := p4841) (c := c4842) tT3284 e4843 rfl), Sub.cons' rfl rfl (Sub.cons' rfl rfl (Sub.cons' rfl rfl (Sub.cons' rfl rfl (Sub.cons' rfl rfl (Sub.cons' rfl rfl (Sub.cons' rfl rfl (Sub.cons' rfl rfl (Sub.nil _))))))))⟩
                  · rintro n5985 _ t' G5989 ⟨rs5598, x5601, T5599, rfl, S5988, lrs5598, tT5599, sT5599, e5600, le5600, hsub5990⟩ o5991 ho5986 hk5987
                    refine AX.sub hsub5990 ?_
                    unfold D_spec_SquareOfSchedules_s1 at ho5986
                    refine AX.seq ?_
                    refine AX.seq ?_
                    refine AX.region ?_
                    refine AO.p rfl (p_move rfl) ?_
                    refine AO.p rfl (p_move rfl) ?_
                    refine AO.p rfl (p_lss rfl rfl) ?_
                    refine AO.nil ?_
                    refine AX.cond rfl (fun c5992 => ?_) (fun c5992 => ?_)
                    · have hd5993 := bif_t c5992 ho5986
                      refine AX.skip ?_
                      refine AX.seq ?_
                      refine AX.block ?_
                      refine AX.seq ?_
                      refine AX.region ?_
                      refine AO.p rfl (p_assign rfl) ?_
                      refine AO.nil ?_
                      obtain ⟨r6244, hl6245, hd6246⟩ := bnd_some hd5993
                      refine AX.cutQ (fun t' H' => ∃ (rs6241 : List (List Int)) (T6242 : Tb), .inl rs6241 = r6244 ∧ St [] H H' [[(i101, AObj.row false ([.int .i64 a0_0, .slice p_a0_1 a0_1.length c_a0_1]))], [(i105, AObj.row false ([.int .i64 a1_0, .slice p_a1_1 a1_1.length c_a1_1]))], [(i109, AObj.row false ([.int .i64 0, .slice none 0 0]))], [(i200, AObj.row false ([.int .i64 (a0_0 - 1), .slice p188 rs185.length c189]))], oseg p188 (tcells T6242), tseg T6242] ∧ rs6241.length = rs185.length ∧ trows T6242 = rs6241 ∧ TSb T6242 ∧ T6242[x3285.toNat]? = some (p4841, c4842, (rw_ rs6241 x3285.toNat)) ∧ (rw_ rs6241 x3285.toNat).length = (rw_ rs3283 x3285.toNat).length ∧ Am.Sub [(2, .pointer (some ⟨i101, 0, none⟩)), (3, .pointer (some ⟨i105, 0, none⟩)), (4, .pointer (some ⟨i109, 0, none⟩)), (6, .int .i64 (a0_0 - 1)), (7, .pointer (some ⟨i200, 0, none⟩)), (8, .int .i64 x3285), (9, .slice p4841 ((rw_ rs3283 x3285.toNat).length) c4842), (10, .int .i64 x5601)] t') ?_ ?_
                      · refine AX.block ?_
                        refine AX.loopF (fun s' t' H' => ∃ (rs6157 : List (List Int)) (x6160 : Int) (T6158 : Tb), (rs6157, x6160) = s' ∧ St [] H H' [[(i101, AObj.row false ([.int .i64 a0_0, .slice p_a0_1 a0_1.length c_a0_1]))], [(i105, AObj.row false ([.int .i64 a1_0, .slice p_a1_1 a1_1.length c_a1_1]))], [(i109, AObj.row false ([.int .i64 0, .slice none 0 0]))], [(i200, AObj.row false ([.int .i64 (a0_0 - 1), .slice p188 rs185.length c189]))], oseg p188 (tcells T6158), tseg T6158] ∧ rs6157.length = rs185.length ∧ trows T6158 = rs6157 ∧ TSb T6158 ∧ T6158[x3285.toNat]? = some (p4841, c4842, (rw_ rs6157 x3285.toNat)) ∧ (rw_ rs6157 x3285.toNat).length = (rw_ rs3283 x3285.toNat).length ∧ Am.Sub [(2, .pointer (some ⟨i101, 0, none⟩)), (3, .pointer (some ⟨i105, 0, none⟩)), (4, .pointer (some ⟨i109, 0, none⟩)), (6, .int .i64 (a0_0 - 1)), (7, .pointer (some ⟨i200, 0, none⟩)), (8, .int .i64 x3285), (9, .slice p4841 ((rw_ rs3283 x3285.toNat).length) c4842), (10, .int .i64 x5601), (11, .int .i64 x6160)] t') hl6245 ?_ ?_
                        · skip
                          have S6247 := S5988.front 5 rfl
                          have S6248 := S6247.front 5 rfl
                          have S6249 := S6248.front 5 rfl
                          have S6250 := S6249.front 5 rfl
                          have S6251 := S6250.front 5 rfl
                          have S6252 := S6251.front 5 rfl
                          exact ⟨rs5598, 0, T5599, rfl, S6252, lrs5598, tT5599, sT5599, (t_rw tT5599 e5600), (t_rwl (p := p4841) (c := c4842) tT5599 e5600 le5600), Sub.cons' rfl rfl (Sub.cons' rfl rfl (Sub.cons' rfl rfl (Sub.cons' rfl rfl (Sub.cons' rfl rfl (Sub.cons' rfl rfl (Sub.cons' rfl rfl (Sub.cons' rfl rfl (Sub.cons' rfl rfl (Sub.nil _)))))))))⟩
                        · rintro n6253 _ t' G6257 ⟨rs6157, x6160, T6158, rfl, S6256, lrs6157, tT6158, sT6158, e6159, le6159, hsub6258⟩ o6259 ho6254 hk6255
                          refine AX.sub hsub6258 ?_
                          unfold D_spec_SquareOfSchedules_s2 at ho6254
                          refine AX.seq ?_
                          refine AX.seq ?_
                          refine AX.region ?_
                          refine AO.p rfl (p_move rfl) ?_
                          refine AO.p rfl (p_move rfl) ?_
                          refine AO.p rfl (p_lss rfl rfl) ?_
                          refine AO.nil ?_
                          refine AX.cond rfl (fun c6260 => ?_) (fun c6260 => ?_)
                          · have hd6261 := bif_t c6260 ho6254
                            refine AX.skip ?_
                            refine AX.seq ?_
                            refine AX.block ?_
                            refine AX.seq ?_
                            refine AX.region ?_
                            refine AO.p rfl (s_fieldAddr Try.underlying39 rfl Try.sizeOf37 (by decide) rfl rfl) ?_
                            refine AO.c rfl (s_load Try.isAgg37 rfl (row_cell (S6256.get (k := 0) rfl) rfl)) ?_
                            refine AO.p rfl (p_move rfl) ?_
                            refine AO.p rfl (p_move rfl) ?_
                            obtain ⟨k6262, hd6263⟩ := chk_some hd6261
                            refine AO.p rfl (s_indexV (q := off p_a0_1 + x3285.toNat * 14) Try.underlying37 Try.sizeOf65 rfl ((S6256.view v_a0_1).rowne a_a0_1 (by decide) (lt_len rfl (inR_lt k6262))) rfl k6262 rfl) ?_
                            obtain ⟨k6264, hd6265⟩ := chk_some hd6263
                            refine AO.p rfl (s_indexAr (q := off p_a0_1 + x3285.toNat * 14 + x6160.toNat) Try.underlying65 Try.sizeOf2 rfl rfl k6264 (o1 _ _)) ?_
                            refine AO.c rfl (s_load Try.isAgg2 rfl ((S6256.view v_a0_1).row a_a0_1 (lt_len rfl (inR_lt k6262)) _ _ (ints_get (lt_len (rw_len a_a0_1 (lt_len rfl (inR_lt k6262))) (inR_lt k6264))))) ?_
                            refine AO.p rfl (p_assign rfl) ?_
                            refine AO.nil ?_
                            refine AX.seq ?_
                            obtain ⟨r6279, hb6280, hd6281⟩ := bnd_some hd6265
                            refine AX.cut (fun t' H' => ∃ (b6278 : Bool), b6278 = r6279 ∧ St [] H H' [[(i101, AObj.row false ([.int .i64 a0_0, .slice p_a0_1 a0_1.length c_a0_1]))], [(i105, AObj.row false ([.int .i64 a1_0, .slice p_a1_1 a1_1.length c_a1_1]))], [(i109, AObj.row false ([.int .i64 0, .slice none 0 0]))], [(i200, AObj.row false ([.int .i64 (a0_0 - 1), .slice p188 rs185.length c189]))], oseg p188 (tcells T6158), tseg T6158] ∧ Am.Sub [(2, .pointer (some ⟨i101, 0, none⟩)), (3, .pointer (some ⟨i105, 0, none⟩)), (4, .pointer (some ⟨i109, 0, none⟩)), (6, .int .i64 (a0_0 - 1)), (7, .pointer (some ⟨i200, 0, none⟩)), (8, .int .i64 x3285), (9, .slice p4841 ((rw_ rs3283 x3285.toNat).length) c4842), (10, .int .i64 x5601), (11, .int .i64 x6160), (12, .int .i64 (rd (rw_ a0_1 x3285.toNat) x6160.toNat)), (94, .bool b6278)] t') ?_ ?_
                            · skip
                              refine AX.region ?_
                              refine AO.p rfl (p_move rfl) ?_
                              refine AO.p rfl (p_move rfl) ?_
                              refine AO.p rfl (p_leq rfl rfl) ?_
                              refine AO.p rfl (p_move rfl) ?_
                              refine AO.cases (d := 84) rfl (fun c6282 => ?_) (fun c6282 => ?_)
                              · have hd6283 := bif_t c6282 hb6280
                                refine AO.gn rfl rfl rfl ?_
                                refine AO.gn rfl rfl rfl ?_
                                refine AO.gn rfl rfl rfl ?_
                                refine AO.gn rfl rfl rfl ?_
                                refine AO.gn rfl rfl rfl ?_
                                refine AO.gn rfl rfl rfl ?_
                                refine AO.gn rfl rfl rfl ?_
                                refine AO.gn rfl rfl rfl ?_
                                refine AO.gn rfl rfl rfl ?_
                                refine AO.p rfl (p_pickT rfl rfl) ?_
                                refine AO.nil ?_
                                have S6284 := S6256.front 5 rfl
                                have S6285 := S6284.front 5 rfl
                                have S6286 := S6285.front 5 rfl
                                have S6287 := S6286.front 5 rfl
                                have S6288 := S6287.front 5 rfl
                                have S6289 := S6288.front 5 rfl
                                exact ⟨true, (some_inj hd6283), S6289, Sub.cons' rfl rfl (Sub.cons' rfl rfl (Sub.cons' rfl rfl (Sub.cons' rfl rfl (Sub.cons' rfl rfl (Sub.cons' rfl rfl (Sub.cons' rfl rfl (Sub.cons' rfl rfl (Sub.cons' rfl rfl (Sub.cons' rfl rfl (Sub.cons' rfl rfl (Sub.nil _)))))))))))⟩
                              · have hd6290 := bif_f c6282 hb6280
                                refine AO.gp rfl rfl rfl (s_fieldAddr Try.underlying39 rfl Try.sizeOf37 (by decide) rfl rfl) ?_
                                refine AO.gc rfl rfl rfl (s_load Try.isAgg37 rfl (row_cell (S6256.get (k := 1) rfl) rfl)) ?_
                                refine AO.gp rfl rfl rfl (p_move rfl) ?_
                                refine AO.gp rfl rfl rfl (p_move rfl) ?_
                                obtain ⟨k6291, hd6292⟩ := chk_some hd6290
                                refine AO.gp rfl rfl rfl (s_indexV (q := off p_a1_1 + x5601.toNat * 14) Try.underlying37 Try.sizeOf65 rfl ((S6256.view v_a1_1).rowne a_a1_1 (by decide) (lt_len rfl (inR_lt k6291))) rfl k6291 rfl) ?_
                                obtain ⟨k6293, hd6294⟩ := chk_some hd6292
                                refine AO.gp rfl rfl rfl (s_indexAr (q := off p_a1_1 + x5601.toNat * 14 + x6160.toNat) Try.underlying65 Try.sizeOf2 rfl rfl k6293 (o1 _ _)) ?_
                                refine AO.gc rfl rfl rfl (s_load Try.isAgg2 rfl ((S6256.view v_a1_1).row a_a1_1 (lt_len rfl (inR_lt k6291)) _ _ (ints_get (lt_len (rw_len a_a1_1 (lt_len rfl (inR_lt k6291))) (inR_lt k6293))))) ?_
                                refine AO.gp rfl rfl rfl (p_move rfl) ?_
                                refine AO.gp rfl rfl rfl (p_neq rfl rfl) ?_
                                refine AO.p rfl (p_pickF rfl rfl) ?_
                                refine AO.nil ?_
                                have S6295 := S6256.front 5 rfl
                                have S6296 := S6295.front 5 rfl
                                have S6297 := S6296.front 5 rfl
                                have S6298 := S6297.front 5 rfl
                                have S6299 := S6298.front 5 rfl
                                have S6300 := S6299.front 5 rfl
                                exact ⟨(!decide (rd (rw_ a1_1 x5601.toNat) x6160.toNat = rd (rw_ a0_1 x3285.toNat) x6160.toNat)), (some_inj hd6294), S6300, Sub.cons' rfl rfl (Sub.cons' rfl rfl (Sub.cons' rfl rfl (Sub.cons' rfl rfl (Sub.cons' rfl rfl (Sub.cons' rfl rfl (Sub.cons' rfl rfl (Sub.cons' rfl rfl (Sub.cons' rfl rfl (Sub.cons' rfl rfl (Sub.cons' rfl rfl (Sub.nil _)))))))))))⟩
                            · rintro t' G6302 ⟨b6278, rfl, S6301, hsub6303⟩
                              refine AX.sub hsub6303 ?_
                              refine AX.cond rfl (fun c6304 => ?_) (fun c6304 => ?_)
                              · have hd6305 := bif_t c6304 hd6281
                                refine AX.exit ?_
                                refine AX.region ?_
                                refine AO.p rfl (p_move rfl) ?_
                                obtain ⟨k6306, hd6307⟩ := chk_some hd6305
                                refine AO.p rfl (p_addE rfl rfl k6306) ?_
                                refine AO.p rfl (p_assign rfl) ?_
                                refine AO.nil ?_
                                obtain rfl := some_inj hd6307
                                have S6309 := S6301.front 5 rfl
                                have S6310 := S6309.front 5 rfl
                                have S6311 := S6310.front 5 rfl
                                have S6312 := S6311.front 5 rfl
                                have S6313 := S6312.front 5 rfl
                                have S6314 := S6313.front 5 rfl
                                exact ⟨(rs6157, x6160 + 1), hk6255, rs6157, (x6160 + 1), T6158, rfl, S6314, lrs6157, tT6158, sT6158, (t_rw tT6158 e6159), (t_rwl (p := p4841) (c := c4842) tT6158 e6159 le6159), Sub.cons' rfl rfl (Sub.cons' rfl rfl (Sub.cons' rfl rfl (Sub.cons' rfl rfl (Sub.cons' rfl rfl (Sub.cons' rfl rfl (Sub.cons' rfl rfl (Sub.cons' rfl rfl (Sub.cons' rfl rfl (Sub.nil _)))))))))⟩
                              · have hd6315 := bif_f c6304 hd6281
                                refine AX.skip ?_
                                refine AX.seq ?_
                                refine AX.seq ?_
                                refine AX.region ?_
                                refine AO.p rfl (p_move rfl) ?_
                                refine AO.p rfl (p_move rfl) ?_
                                obtain ⟨k6316, hd6317⟩ := chk_some hd6315
                                refine AO.p rfl (s_indexV (q := off p4841 + x5601.toNat) Try.underlying68 Try.sizeOf2 rfl (((TVw.at (S6301.oviewT (k := 5) rfl sT6158) e6159).len le6159).p (ints_get (lt_len le6159 (inR_lt k6316)))) rfl k6316 (o1 _ _)) ?_
                                refine AO.c rfl (s_load Try.isAgg2 rfl (((TVw.at (S6301.oviewT (k := 5) rfl sT6158) e6159).len le6159).get _ _ (ints_get (lt_len le6159 (inR_lt k6316))))) ?_
                                refine AO.p rfl (p_geq rfl rfl) ?_
                                refine AO.nil ?_
                                refine AX.cond rfl (fun c6318 => ?_) (fun c6318 => ?_)
                                · have hd6319 := bif_t c6318 hd6317
                                  refine AX.seq ?_
                                  refine AX.region ?_
                                  refine AO.p rfl (p_build2 (vs := []) (cs := [.int .i64 0, .slice none 0 0]) Try.underlying26 rfl rfl rfl Try.sizeOf2 Try.sizeOf22 Try.zeroValue26 rfl rfl rfl rfl rfl) ?_
                                  obtain ⟨G6320, hHG6320, S6321⟩ := S6301.set (k := 2) (i := i109) rfl (AObj.row false ([.int .i64 0, .slice none 0 0]))
                                  refine AO.s (s_storeAll (vs := [.int .i64 0, .slice none 0 0]) Try.sizeOf26 rfl rfl (ones_list rfl) (S6301.get (k := 2) rfl) rfl rfl hHG6320) ?_
                                  refine AO.p rfl (p_assign rfl) ?_
                                  refine AO.nil ?_
                                  refine AX.ret ?_
                                  obtain rfl := some_inj hd6319
                                  have z6322 : _ = r6244 := hk6255
                                  subst z6322
                                  obtain rfl := some_inj hd6246
                                  have z6323 : _ = r5976 := hk5987
                                  subst z6323
                                  obtain rfl := some_inj hd5978
                                  have z6324 : _ = r4821 := hk4832
                                  subst z6324
                                  obtain ⟨rfl, z6325⟩ := Prod.mk.inj (some_inj hd4823)
                                  obtain ⟨rfl, rfl⟩ := Prod.mk.inj z6325
                                  have S6327 : St [] H G6320 (tseg [] :: _) := S6321.nilseg 0
                                  have S6328 : St [] H G6320 (oseg none (tcells []) :: _) := S6327.nilseg 0
                                  have S6329 := S6328.keep 2
                                  exact ⟨.inr rfl, _, res2 rfl (rv_cell (vs := [.int .i64 0, .slice none 0 0]) rfl Try.isAgg26 Try.sizeOf26 rfl (row_cells (S6321.get (k := 2) rfl))) (rv_tmp rfl), none, 0, [], rfl, S6329, Sb.nil, rfl, TSb.nil⟩
                                · have hd6330 := bif_f c6318 hd6317
                                  refine AX.skip ?_
                                  refine AX.region ?_
                                  refine AO.p rfl (p_move rfl) ?_
                                  refine AO.p rfl (p_move rfl) ?_
                                  refine AO.p rfl (p_move rfl) ?_
                                  obtain ⟨k6331, hd6332⟩ := chk_some hd6330
                                  refine AO.p rfl (p_mulE rfl rfl k6331) ?_
                                  refine AO.p rfl (p_move rfl) ?_
                                  obtain ⟨k6333, hd6334⟩ := chk_some hd6332
                                  refine AO.p rfl (p_addE rfl rfl k6333) ?_
                                  obtain ⟨k6335, hd6336⟩ := chk_some hd6334
                                  refine AO.p rfl (s_indexV (q := off p4841 + x5601.toNat) Try.underlying68 Try.sizeOf2 rfl (((TVw.at (S6301.oviewT (k := 5) rfl sT6158) e6159).len le6159).p (ints_get (lt_len le6159 (inR_lt k6335)))) rfl k6335 (o1 _ _)) ?_
                                  obtain ⟨G6337, hHG6337, S6338⟩ := S6301.tset (k := 5) rfl e6159 (((TSb.at sT6158 e6159).len le6159).at (inR_pos k6335)) ((rw_ rs6157 x3285.toNat).set x5601.toNat (14 * x6160 + (rd (rw_ a0_1 x3285.toNat) x6160.toNat)))
                                  have S6339 := S6338.hdr (k := 4) (tcells_set (xs' := ((rw_ rs6157 x3285.toNat).set x5601.toNat (14 * x6160 + (rd (rw_ a0_1 x3285.toNat) x6160.toNat)))) e6159 (len_set rfl)).symm rfl
                                  refine AO.s (s_storeO (o := off p4841 + x5601.toNat) (q := x5601.toNat) (off0 (((TSb.at sT6158 e6159).len le6159).at (inR_pos k6335)) _) Try.sizeOf2 rfl rfl rfl (S6301.tat (k := 5) rfl e6159 (((TSb.at sT6158 e6159).len le6159).at (inR_pos k6335))) (lt_len ((ints_length _).trans le6159) (inR_lt k6335)) ((congrArg (fun l => List.set _ _ (AObj.row false l)) (ints_set _ _ _)).trans hHG6337)) ?_
                                  refine AO.nil ?_
                                  refine AX.region ?_
                                  refine AO.p rfl (p_move rfl) ?_
                                  obtain ⟨k6340, hd6341⟩ := chk_some hd6336
                                  refine AO.p rfl (p_addE rfl rfl k6340) ?_
                                  refine AO.p rfl (p_assign rfl) ?_
                                  refine AO.nil ?_
                                  obtain rfl := some_inj hd6341
                                  have S6343 := S6339.front 5 rfl
                                  have S6344 := S6343.front 5 rfl
                                  have S6345 := S6344.front 5 rfl
                                  have S6346 := S6345.front 5 rfl
                                  have S6347 := S6346.front 5 rfl
                                  have S6348 := S6347.front 5 rfl
                                  exact ⟨((rs6157.set x3285.toNat ((rw_ rs6157 x3285.toNat).set x5601.toNat (14 * x6160 + (rd (rw_ a0_1 x3285.toNat) x6160.toNat)))), x6160 + 1), hk6255, (rs6157.set x3285.toNat ((rw_ rs6157 x3285.toNat).set x5601.toNat (14 * x6160 + (rd (rw_ a0_1 x3285.toNat) x6160.toNat)))), (x6160 + 1), (T6158.set x3285.toNat (p4841, c4842, ((rw_ rs6157 x3285.toNat).set x5601.toNat (14 * x6160 + (rd (rw_ a0_1 x3285.toNat) x6160.toNat))))), rfl, S6348, (len_set lrs6157), (trows_set' tT6158), (TSb.set sT6158 e6159 (len_set rfl)), (t_rw (trows_set' tT6158) (tset_same e6159)), (t_rwl (p := p4841) (c := c4842) (trows_set' tT6158) (tset_same e6159) (len_set le6159)), Sub.cons' rfl rfl (Sub.cons' rfl rfl (Sub.cons' rfl rfl (Sub.cons' rfl rfl (Sub.cons' rfl rfl (Sub.cons' rfl rfl (Sub.cons' rfl rfl (Sub.cons' rfl rfl (Sub.cons' rfl rfl (Sub.nil _)))))))))⟩
                          · have hd6349 := bif_f c6260 ho6254
                            refine AX.exit ?_
                            obtain rfl := some_inj hd6349
                            have S6350 := S6256.front 5 rfl
                            have S6351 := S6350.front 5 rfl
                            have S6352 := S6351.front 5 rfl
                            have S6353 := S6352.front 5 rfl
                            have S6354 := S6353.front 5 rfl
                            have S6355 := S6354.front 5 rfl
                            exact ⟨rs6157, T6158, hk6255, S6355, lrs6157, tT6158, sT6158, (t_rw tT6158 e6159), (t_rwl (p := p4841) (c := c4842) tT6158 e6159 le6159), Sub.cons' rfl rfl (Sub.cons' rfl rfl (Sub.cons' rfl rfl (Sub.cons' rfl rfl (Sub.cons' rfl rfl (Sub.cons' rfl rfl (Sub.cons' rfl rfl (Sub.cons' rfl rfl (Sub.nil _))))))))⟩
                      · rintro t' G6357 ⟨rs6241, T6242, rfl, S6356, lrs6241, tT6242, sT6242, e6243, le6243, hsub6358⟩
                        refine AX.sub hsub6358 ?_
                        refine AX.region ?_
                        refine AO.p rfl (p_move rfl) ?_
                        obtain ⟨k6359, hd6360⟩ := chk_some hd6246
                        refine AO.p rfl (p_addE rfl rfl k6359) ?_
                        refine AO.p rfl (p_assign rfl) ?_
                        refine AO.nil ?_
                        obtain rfl := some_inj hd6360
                        have S6362 := S6356.front 5 rfl
                        have S6363 := S6362.front 5 rfl
                        have S6364 := S6363.front 5 rfl
                        have S6365 := S6364.front 5 rfl
                        have S6366 := S6365.front 5 rfl
                        have S6367 := S6366.front 5 rfl
                        exact ⟨(rs6241, x5601 + 1), hk5987, rs6241, (x5601 + 1), T6242, rfl, S6367, lrs6241, tT6242, sT6242, (t_rw tT6242 e6243), (t_rwl (p := p4841) (c := c4842) tT6242 e6243 le6243), Sub.cons' rfl rfl (Sub.cons' rfl rfl (Sub.cons' rfl rfl (Sub.cons' rfl rfl (Sub.cons' rfl rfl (Sub.cons' rfl rfl (Sub.cons' rfl rfl (Sub.cons' rfl rfl (Sub.nil _))))))))⟩
                    · have hd6369 := bif_f c5992 ho5986
                      refine AX.exit ?_
                      obtain rfl := some_inj hd6369
                      have S6370 := S5988.front 5 rfl
                      have S6371 := S6370.front 5 rfl
                      have S6372 := S6371.front 5 rfl
                      have S6373 := S6372.front 5 rfl
                      have S6374 := S6373.front 5 rfl
                      have S6375 := S6374.front 5 rfl
                      exact ⟨rs5598, T5599, hk5987, S6375, lrs5598, tT5599, sT5599, Sub.cons' rfl rfl (Sub.cons' rfl rfl (Sub.cons' rfl rfl (Sub.cons' rfl rfl (Sub.cons' rfl rfl (Sub.cons' rfl rfl (Sub.nil _))))))⟩
                · rintro t' G6377 ⟨rs5974, T5975, rfl, S6376, lrs5974, tT5975, sT5975, hsub6378⟩
                  refine AX.sub hsub6378 ?_
                  refine AX.region ?_
                  refine AO.p rfl (p_move rfl) ?_
                  obtain ⟨k6379, hd6380⟩ := chk_some hd5978
                  refine AO.p rfl (p_addE rfl rfl k6379) ?_
                  refine AO.p rfl (p_assign rfl) ?_
                  refine AO.nil ?_
                  obtain rfl := some_inj hd6380
                  have S6382 := S6376.front 5 rfl
                  have S6383 := S6382.front 5 rfl
                  have S6384 := S6383.front 5 rfl
                  have S6385 := S6384.front 5 rfl
                  have S6386 := S6385.front 5 rfl
                  have S6387 := S6386.front 5 rfl
                  exact ⟨(rs5974, x3285 + 1), hk4832, rs5974, (x3285 + 1), T5975, rfl, S6387, lrs5974, tT5975, sT5975, Sub.cons' rfl rfl (Sub.cons' rfl rfl (Sub.cons' rfl rfl (Sub.cons' rfl rfl (Sub.cons' rfl rfl (Sub.cons' rfl rfl (Sub.nil _))))))⟩
              · have hd6389 := bif_f c4837 ho4831
                refine AX.exit ?_
                obtain rfl := some_inj hd6389
                have S6390 := S4833.front 5 rfl
                have S6391 := S6390.front 5 rfl
                have S6392 := S6391.front 5 rfl
                have S6393 := S6392.front 5 rfl
                have S6394 := S6393.keep 4
                exact ⟨rs3283, T3284, hk4832, S6394, lrs3283, tT3284, sT3284, Sub.cons' rfl rfl (Sub.cons' rfl rfl (Sub.nil _))⟩
          · rintro t' G6396 ⟨rs4819, T4820, rfl, S6395, lrs4819, tT4820, sT4820, hsub6397⟩
            refine AX.sub hsub6397 ?_
            refine AX.seq ?_
            refine AX.region ?_
            refine AO.c rfl (s_loadN (vs := [.int .i64 (a0_0 - 1), .slice p188 rs185.length c189]) Try.isAgg26 Try.sizeOf26 rfl rfl (row_cells (S6395.get (k := 1) rfl))) ?_
            obtain ⟨G6398, hHG6398, S6399⟩ := S6395.set (k := 0) (i := i109) rfl (AObj.row false ([.int .i64 (a0_0 - 1), .slice p188 rs185.length c189]))
            refine AO.s (s_storeAll (vs := [.int .i64 (a0_0 - 1), .slice p188 rs185.length c189]) Try.sizeOf26 rfl rfl (ones_list rfl) (S6395.get (k := 0) rfl) rfl rfl hHG6398) ?_
            refine AO.p rfl (p_assign rfl) ?_
            refine AO.nil ?_
            refine AX.ret ?_
            obtain ⟨rfl, z6400⟩ := Prod.mk.inj (some_inj hd4823)
            obtain ⟨rfl, rfl⟩ := Prod.mk.inj z6400
            have S6402 := S6399.front 3 rfl
            have S6403 := S6402.front 3 rfl
            have S6404 := S6403.keep 2
            exact ⟨.inr rfl, _, res2 rfl (rv_cell (vs := [.int .i64 (a0_0 - 1), .slice p188 rs185.length c189]) rfl Try.isAgg26 Try.sizeOf26 rfl (row_cells (S6399.get (k := 0) rfl))) (rv_tmp rfl), p188, c189, T4820, (by rw [show List.length rs4819 = rs185.length from lrs4819]), S6404, (by rw [show List.length rs4819 = rs185.length from lrs4819]; exact B191), tT4820, sT4820⟩

set_option maxHeartbeats 4000000 in
theorem W_impl_size_impl_Round (fu : Nat) (H : AHeap) (p_a0 : Option Addr) (c_a0 : Nat) (a0 : List (List Int)) (a_a0 : All 14 a0) (v_a0 : Vw H p_a0 a0.length c_a0 (ints a0.flatten)) (r0 : Int) (hd : D_impl_size_impl_Round fu a0 = some r0) : ACall Try.prog 101 [.slice p_a0 a0.length c_a0] H (.int .i64 r0) H := by
  refine ACall.bodyP (N := 5) [(0, .slice p_a0 a0.length c_a0)] Try.func101 rfl rfl rfl rfl ?_
  unfold D_impl_size_impl_Round at hd
  have S0 : St [] H H [] := St.nil H
  refine AX.seq ?_
  refine AX.region ?_
  refine AO.p rfl (p_assign rfl) ?_
  refine AO.nil ?_
  refine AX.seq ?_
  refine AX.region ?_
  refine AO.p rfl (p_move rfl) ?_
  refine AO.p rfl (p_len_slice rfl Try.underlying37) ?_
  refine AO.p rfl (p_assign rfl) ?_
  refine AO.nil ?_
  refine AX.ret ?_
  obtain rfl := some_inj hd
  exact ⟨.inr rfl, _, res1 rfl (rv_tmp rfl), rfl, (flatB_ok rfl), S0.hold⟩

set_option maxHeartbeats 4000000 in
theorem W_impl_emptySquare (fu : Nat) (H : AHeap) (a0 : Int) (r0 : Int) (r1 : List (List Int)) (hd : D_impl_emptySquare fu a0 = some (r0, r1)) : ∃ v G', ACall Try.prog 102 [.int .i64 a0] H v G' ∧ ∃ (p_r1 : Option Addr) (c_r1 : Nat) (T_r1 : Tb), (v = .agg [.int .i64 r0, .slice p_r1 r1.length c_r1].toArray) ∧ St [] H G' [oseg p_r1 (tcells T_r1), tseg T_r1] ∧ Sb p_r1 r1.length c_r1 1 ∧ trows T_r1 = r1 ∧ TSb T_r1 := by
  refine ACall.bodyX (args := [.int .i64 a0]) (N := 29) [(0, .int .i64 a0)] (fun v G' => ∃ (p_r1 : Option Addr) (c_r1 : Nat) (T_r1 : Tb), (v = .agg [.int .i64 r0, .slice p_r1 r1.length c_r1].toArray) ∧ St [] H G' [oseg p_r1 (tcells T_r1), tseg T_r1] ∧ Sb p_r1 r1.length c_r1 1 ∧ trows T_r1 = r1 ∧ TSb T_r1) Try.func102 rfl rfl rfl rfl ?_
  unfold D_impl_emptySquare at hd
  have S0 : St [] H H [] := St.nil H
  refine AX.seq ?_
  refine AX.region ?_
  obtain ⟨G100, i101, hii101, hHG100, S102⟩ := S0.new (AObj.row false ([.int .i64 0, .slice none 0 0]))
  refine AO.c rfl (s_alloc (i := i101) (cs := [.int .i64 0, .slice none 0 0]) Try.zeroValue26 rfl rfl hii101 hHG100) ?_
  refine AO.nil ?_
  refine AX.seq ?_
  refine AX.region ?_
  refine AO.p rfl (p_move rfl) ?_
  refine AO.p rfl (p_move rfl) ?_
  obtain ⟨rs104, h105, hd106⟩ := bnd_some hd
  obtain ⟨_, G115, hc114, p107, c108, T111, rfl, S116, B110, t112, s113⟩ := W_impl_square fu G100 a0 rs104 h105
  have S117 := S102.call S116
  refine AO.c rfl (o_call (vs := [.int .i64 a0]) rfl Try.call119 hc114) ?_
  refine AO.p rfl (p_build2 (vs := [(0, .int .i64 a0), (1, .slice p107 rs104.length c108)]) (cs := [.int .i64 a0, .slice p107 rs104.length c108]) Try.underlying26 rfl rfl rfl Try.sizeOf2 Try.sizeOf22 Try.zeroValue26 rfl rfl rfl rfl rfl) ?_
  obtain ⟨G118, i119, hii119, hHG118, S120⟩ := S117.new (AObj.row false ([.int .i64 0, .slice none 0 0]))
  refine AO.c rfl (s_alloc (i := i119) (cs := [.int .i64 0, .slice none 0 0]) Try.zeroValue26 rfl rfl hii119 hHG118) ?_
  obtain ⟨G122, hHG122, S123⟩ := S120.set (k := 0) (i := i119) rfl (AObj.row false ([.int .i64 a0, .slice p107 rs104.length c108]))
  refine AO.s (s_storeAll (vs := [.int .i64 a0, .slice p107 rs104.length c108]) Try.sizeOf26 rfl rfl (ones_list rfl) (S120.get (k := 0) rfl) rfl rfl hHG122) ?_
  refine AO.nil ?_
  refine AX.seq ?_
  refine AX.seq ?_
  refine AX.region ?_
  refine AO.p rfl (s_fieldAddr Try.underlying26 rfl Try.sizeOf22 (by decide) rfl rfl) ?_
  refine AO.c rfl (s_load Try.isAgg22 rfl (row_cell (S123.get (k := 0) rfl) rfl)) ?_
  refine AO.p rfl (p_len_slice rfl Try.underlying22) ?_
  refine AO.p rfl (p_move rfl) ?_
  refine AO.nil ?_
  obtain ⟨r477, hl478, hd479⟩ := bnd_some hd106
  refine AX.cutQ (fun t' H' => ∃ (rs475 : List (List Int)) (T476 : Tb), rs475 = r477 ∧ St [] H H' [[(i101, AObj.row false ([.int .i64 0, .slice none 0 0]))], [(i119, AObj.row false ([.int .i64 a0, .slice p107 rs104.length c108]))], oseg p107 (tcells T476), tseg T476] ∧ rs475.length = rs104.length ∧ trows T476 = rs475 ∧ TSb T476 ∧ Am.Sub [(2, .pointer (some ⟨i101, 0, none⟩)), (3, .pointer (some ⟨i119, 0, none⟩))] t') ?_ ?_
  · refine AX.block ?_
    refine AX.loopF (fun s' t' H' => ∃ (rs358 : List (List Int)) (x360 : Int) (T359 : Tb), (rs358, x360) = s' ∧ St [] H H' [[(i101, AObj.row false ([.int .i64 0, .slice none 0 0]))], [(i119, AObj.row false ([.int .i64 a0, .slice p107 rs104.length c108]))], oseg p107 (tcells T359), tseg T359] ∧ rs358.length = rs104.length ∧ trows T359 = rs358 ∧ TSb T359 ∧ Am.Sub [(2, .pointer (some ⟨i101, 0, none⟩)), (3, .pointer (some ⟨i119, 0, none⟩)), (12, .slice p107 rs104.length c108), (13, .int .i64 ((rs104.length : Nat) : Int)), (14, .int .i64 x360)] t') hl478 ?_ ?_
    · skip
      have S480 := S123.front 2 rfl
      have S481 := S480.front 2 rfl
      have S482 := S481.front 2 rfl
      have S483 := S482.front 3 rfl
      exact ⟨rs104, 0, T111, rfl, S483, rfl, t112, s113, Sub.cons' rfl rfl (Sub.cons' rfl rfl (Sub.cons' rfl rfl (Sub.cons' rfl rfl (Sub.cons' rfl rfl (Sub.nil _)))))⟩
    · rintro n484 _ t' G488 ⟨rs358, x360, T359, rfl, S487, lrs358, tT359, sT359, hsub489⟩ o490 ho485 hk486
      refine AX.sub hsub489 ?_
      unfold D_impl_emptySquare_s0 at ho485
      refine AX.seq ?_
      refine AX.region ?_
      refine AO.p rfl (p_lss rfl rfl) ?_
      refine AO.nil ?_
      refine AX.seq ?_
      refine AX.cond rfl (fun c491 => ?_) (fun c491 => ?_)
      · have hd492 := bif_t c491 ho485
        refine AX.skip ?_
        refine AX.seq ?_
        refine AX.block ?_
        refine AX.seq ?_
        refine AX.region ?_
        obtain ⟨k493, hd494⟩ := chk_some hd492
        refine AO.p rfl (s_indexV (q := x360.toNat) Try.underlying22 Try.sizeOf68 rfl (B110.at (inR_pos k493)) rfl k493 (z1 _)) ?_
        obtain ⟨p495, c496, e497, f498⟩ := tget tT359 (lt_len lrs358 (inR_lt k493))
        refine AO.c rfl (s_load Try.isAgg68 rfl (row_cell (S487.oat (k := 2) rfl (B110.at (inR_pos k493))) f498)) ?_
        refine AO.p rfl (p_assign rfl) ?_
        refine AO.nil ?_
        refine AX.seq ?_
        refine AX.region ?_
        refine AO.p rfl (p_move rfl) ?_
        refine AO.p rfl (p_len_slice rfl Try.underlying68) ?_
        refine AO.p rfl (p_move rfl) ?_
        refine AO.nil ?_
        obtain ⟨r560, hl561, hd562⟩ := bnd_some hd494
        refine AX.cutQ (fun t' H' => ∃ (rs558 : List (List Int)) (T559 : Tb), rs558 = r560 ∧ St [] H H' [[(i101, AObj.row false ([.int .i64 0, .slice none 0 0]))], [(i119, AObj.row false ([.int .i64 a0, .slice p107 rs104.length c108]))], oseg p107 (tcells T559), tseg T559] ∧ rs558.length = rs104.length ∧ trows T559 = rs558 ∧ TSb T559 ∧ Am.Sub [(2, .pointer (some ⟨i101, 0, none⟩)), (3, .pointer (some ⟨i119, 0, none⟩)), (12, .slice p107 rs104.length c108), (13, .int .i64 ((rs104.length : Nat) : Int)), (14, .int .i64 x360)] t') ?_ ?_
        · refine AX.block ?_
          refine AX.loopF (fun s' t' H' => ∃ (rs538 : List (List Int)) (x541 : Int) (T539 : Tb), (rs538, x541) = s' ∧ St [] H H' [[(i101, AObj.row false ([.int .i64 0, .slice none 0 0]))], [(i119, AObj.row false ([.int .i64 a0, .slice p107 rs104.length c108]))], oseg p107 (tcells T539), tseg T539] ∧ rs538.length = rs104.length ∧ trows T539 = rs538 ∧ TSb T539 ∧ T539[x360.toNat]? = some (p495, c496, (rw_ rs538 x360.toNat)) ∧ (rw_ rs538 x360.toNat).length = (rw_ rs358 x360.toNat).length ∧ Am.Sub [(2, .pointer (some ⟨i101, 0, none⟩)), (3, .pointer (some ⟨i119, 0, none⟩)), (5, .slice p495 ((rw_ rs358 x360.toNat).length) c496), (12, .slice p107 rs104.length c108), (13, .int .i64 ((rs104.length : Nat) : Int)), (14, .int .i64 x360), (19, .int .i64 (((rw_ rs358 x360.toNat).length : Nat) : Int)), (20, .int .i64 x541)] t') hl561 ?_ ?_
          · skip
            have S563 := S487.front 3 rfl
            have S564 := S563.front 3 rfl
            have S565 := S564.front 3 rfl
            have S566 := S565.front 3 rfl
            exact ⟨rs358, 0, T359, rfl, S566, lrs358, tT359, sT359, (t_rw tT359 e497), (t_rwl (p := p495) (c := c496) tT359 e497 rfl), Sub.cons' rfl rfl (Sub.cons' rfl rfl (Sub.cons' rfl rfl (Sub.cons' rfl rfl (Sub.cons' rfl rfl (Sub.cons' rfl rfl (Sub.cons' rfl rfl (Sub.cons' rfl rfl (Sub.nil _))))))))⟩
          · rintro n567 _ t' G571 ⟨rs538, x541, T539, rfl, S570, lrs538, tT539, sT539, e540, le540, hsub572⟩ o573 ho568 hk569
            refine AX.sub hsub572 ?_
            unfold D_impl_emptySquare_s1 at ho568
            refine AX.seq ?_
            refine AX.region ?_
            refine AO.p rfl (p_lss rfl rfl) ?_
            refine AO.nil ?_
            refine AX.seq ?_
            refine AX.cond rfl (fun c574 => ?_) (fun c574 => ?_)
            · have hd575 := bif_t c574 ho568
              refine AX.skip ?_
              refine AX.seq ?_
              refine AX.block ?_
              refine AX.seq ?_
              refine AX.region ?_
              refine AO.p rfl (p_move rfl) ?_
              refine AO.p rfl (p_assign rfl) ?_
              refine AO.nil ?_
              refine AX.region ?_
              refine AO.p rfl (p_move rfl) ?_
              refine AO.p rfl (p_move rfl) ?_
              obtain ⟨k576, hd577⟩ := chk_some hd575
              refine AO.p rfl (s_indexV (q := off p495 + x541.toNat) Try.underlying68 Try.sizeOf2 rfl (((TVw.at (S570.oviewT (k := 3) rfl sT539) e540).len le540).p (ints_get (lt_len le540 (inR_lt k576)))) rfl k576 (o1 _ _)) ?_
              obtain ⟨G578, hHG578, S579⟩ := S570.tset (k := 3) rfl e540 (((TSb.at sT539 e540).len le540).at (inR_pos k576)) ((rw_ rs538 x360.toNat).set x541.toNat (-1))
              have S580 := S579.hdr (k := 2) (tcells_set (xs' := ((rw_ rs538 x360.toNat).set x541.toNat (-1))) e540 (len_set rfl)).symm rfl
              refine AO.s (s_storeO (o := off p495 + x541.toNat) (q := x541.toNat) (off0 (((TSb.at sT539 e540).len le540).at (inR_pos k576)) _) Try.sizeOf2 rfl rfl rfl (S570.tat (k := 3) rfl e540 (((TSb.at sT539 e540).len le540).at (inR_pos k576))) (lt_len ((ints_length _).trans le540) (inR_lt k576)) ((congrArg (fun l => List.set _ _ (AObj.row false l)) (ints_set _ _ _)).trans hHG578)) ?_
              refine AO.nil ?_
              refine AX.region ?_
              obtain ⟨k581, hd582⟩ := chk_some hd577
              refine AO.p rfl (p_addE rfl rfl k581) ?_
              refine AO.p rfl (p_move rfl) ?_
              refine AO.nil ?_
              obtain rfl := some_inj hd582
              have S584 := S580.front 3 rfl
              have S585 := S584.front 3 rfl
              have S586 := S585.front 3 rfl
              have S587 := S586.front 3 rfl
              exact ⟨((rs538.set x360.toNat ((rw_ rs538 x360.toNat).set x541.toNat (-1))), x541 + 1), hk569, (rs538.set x360.toNat ((rw_ rs538 x360.toNat).set x541.toNat (-1))), (x541 + 1), (T539.set x360.toNat (p495, c496, ((rw_ rs538 x360.toNat).set x541.toNat (-1)))), rfl, S587, (len_set lrs538), (trows_set' tT539), (TSb.set sT539 e540 (len_set rfl)), (t_rw (trows_set' tT539) (tset_same e540)), (t_rwl (p := p495) (c := c496) (trows_set' tT539) (tset_same e540) (len_set le540)), Sub.cons' rfl rfl (Sub.cons' rfl rfl (Sub.cons' rfl rfl (Sub.cons' rfl rfl (Sub.cons' rfl rfl (Sub.cons' rfl rfl (Sub.cons' rfl rfl (Sub.cons' rfl rfl (Sub.nil _))))))))⟩
            · have hd588 := bif_f c574 ho568
              refine AX.exit ?_
              obtain rfl := some_inj hd588
              have S589 := S570.front 3 rfl
              have S590 := S589.front 3 rfl
              have S591 := S590.front 3 rfl
              have S592 := S591.front 3 rfl
              exact ⟨rs538, T539, hk569, S592, lrs538, tT539, sT539, Sub.cons' rfl rfl (Sub.cons' rfl rfl (Sub.cons' rfl rfl (Sub.cons' rfl rfl (Sub.cons' rfl rfl (Sub.nil _)))))⟩
        · rintro t' G594 ⟨rs558, T559, rfl, S593, lrs558, tT559, sT559, hsub595⟩
          refine AX.sub hsub595 ?_
          refine AX.region ?_
          obtain ⟨k596, hd597⟩ := chk_some hd562
          refine AO.p rfl (p_addE rfl rfl k596) ?_
          refine AO.p rfl (p_move rfl) ?_
          refine AO.nil ?_
          obtain rfl := some_inj hd597
          have S599 := S593.front 3 rfl
          have S600 := S599.front 3 rfl
          have S601 := S600.front 3 rfl
          have S602 := S601.front 3 rfl
          exact ⟨(rs558, x360 + 1), hk486, rs558, (x360 + 1), T559, rfl, S602, lrs558, tT559, sT559, Sub.cons' rfl rfl (Sub.cons' rfl rfl (Sub.cons' rfl rfl (Sub.cons' rfl rfl (Sub.cons' rfl rfl (Sub.nil _)))))⟩
      · have hd603 := bif_f c491 ho485
        refine AX.exit ?_
        obtain rfl := some_inj hd603
        have S604 := S487.front 3 rfl
        have S605 := S604.front 3 rfl
        have S606 := S605.front 3 rfl
        have S607 := S606.front 3 rfl
        exact ⟨rs358, T359, hk486, S607, lrs358, tT359, sT359, Sub.cons' rfl rfl (Sub.cons' rfl rfl (Sub.nil _))⟩
  · rintro t' G609 ⟨rs475, T476, rfl, S608, lrs475, tT476, sT476, hsub610⟩
    refine AX.sub hsub610 ?_
    refine AX.seq ?_
    refine AX.region ?_
    refine AO.c rfl (s_loadN (vs := [.int .i64 a0, .slice p107 rs104.length c108]) Try.isAgg26 Try.sizeOf26 rfl rfl (row_cells (S608.get (k := 1) rfl))) ?_
    obtain ⟨G611, hHG611, S612⟩ := S608.set (k := 0) (i := i101) rfl (AObj.row false ([.int .i64 a0, .slice p107 rs104.length c108]))
    refine AO.s (s_storeAll (vs := [.int .i64 a0, .slice p107 rs104.length c108]) Try.sizeOf26 rfl rfl (ones_list rfl) (S608.get (k := 0) rfl) rfl rfl hHG611) ?_
    refine AO.nil ?_
    refine AX.ret ?_
    obtain ⟨rfl, rfl⟩ := Prod.mk.inj (some_inj hd479)
    have S614 := S612.front 3 rfl
    have S615 := S614.front 3 rfl
    have S616 := S615.keep 2
    exact ⟨.inr rfl, _, res1 rfl (rv_cell (vs := [.int .i64 a0, .slice p107 rs104.length c108]) rfl Try.isAgg26 Try.sizeOf26 rfl (row_cells (S612.get (k := 0) rfl))), p107, c108, T476, (by rw [show List.length rs475 = rs104.length from lrs475]), S616, (by rw [show List.length rs475 = rs104.length from lrs475]; exact B110), tT476, sT476⟩

set_option maxHeartbeats 4000000 in
theorem W_impl_Round_pairs (fu : Nat) (H : AHeap) (a0 : List Int) (h_a0 : a0.length = 14) (a1 : Int) (r0 : List (List Int)) (hd : D_impl_Round_pairs fu a0 a1 = some r0) : ∃ v G', ACall Try.prog 86 [.agg (ints a0).toArray, .int .i64 a1] H v G' ∧ ∃ (p_r0 : Option Addr) (c_r0 : Nat) (T_r0 : Tb), (v = .slice p_r0 r0.length c_r0) ∧ St [] H G' [oseg p_r0 (tcells T_r0), tseg T_r0] ∧ Sb p_r0 r0.length c_r0 1 ∧ trows T_r0 = r0 ∧ TSb T_r0 := by
  refine ACall.bodyX (args := [.agg (ints a0).toArray, .int .i64 a1]) (N := 27) [(0, .agg (ints a0).toArray), (1, .int .i64 a1)] (fun v G' => ∃ (p_r0 : Option Addr) (c_r0 : Nat) (T_r0 : Tb), (v = .slice p_r0 r0.length c_r0) ∧ St [] H G' [oseg p_r0 (tcells T_r0), tseg T_r0] ∧ Sb p_r0 r0.length c_r0 1 ∧ trows T_r0 = r0 ∧ TSb T_r0) Try.func86 rfl rfl rfl rfl ?_
  unfold D_impl_Round_pairs at hd
  have S0 : St [] H H [] := St.nil H
  refine AX.seq ?_
  refine AX.region ?_
  obtain ⟨G100, i101, hii101, hHG100, S102⟩ := S0.new (AObj.row false (ints a0))
  refine AO.c rfl (s_box (i := i101) (cs := ints a0) rfl hii101 rfl hHG100) ?_
  refine AO.p rfl (p_assign rfl) ?_
  refine AO.nil ?_
  refine AX.seq ?_
  refine AX.region ?_
  obtain ⟨G104, i105, hii105, hHG104, S106⟩ := S102.new (AObj.row false (tcells []))
  have S106t := S106.nilseg 1
  refine AO.c rfl (s_build0 (i := i105) Try.underlying22 Try.sizeOf68 hii105 hHG104) ?_
  refine AO.p rfl (p_assign rfl) ?_
  refine AO.nil ?_
  refine AX.seq ?_
  refine AX.seq ?_
  refine AX.region ?_
  refine AO.p rfl (p_move rfl) ?_
  refine AO.p rfl (p_move rfl) ?_
  refine AO.nil ?_
  obtain ⟨r233, hl234, hd235⟩ := bnd_some hd
  refine AX.cutQ (fun t' H' => ∃ (rs231 : List (List Int)) (p229 : Option Addr) (c230 : Nat) (T232 : Tb), rs231 = r233 ∧ St [] H H' [oseg p229 (tcells T232), tseg T232] ∧ trows T232 = rs231 ∧ TSb T232 ∧ Sb p229 (rs231.length) c230 1 ∧ Am.Sub [(5, .slice p229 rs231.length c230)] t') ?_ ?_
  · refine AX.block ?_
    refine AX.loopF (fun s' t' H' => ∃ (rs189 : List (List Int)) (x191 : Int) (p187 : Option Addr) (c188 : Nat) (T190 : Tb), (rs189, x191) = s' ∧ St [] H H' [[(i101, AObj.row false (ints a0))], oseg p187 (tcells T190), tseg T190] ∧ trows T190 = rs189 ∧ TSb T190 ∧ Sb p187 (rs189.length) c188 1 ∧ Am.Sub [(2, .pointer (some ⟨i101, 0, none⟩)), (5, .slice p187 rs189.length c188), (8, .int .i64 a1), (9, .int .i64 x191)] t') hl234 ?_ ?_
    · skip
      have S236 := S106t.front 1 rfl
      have S237 := S236.front 1 rfl
      have S238 := S237.front 2 rfl
      exact ⟨[], 0, (some (Addr.mk i105 0 none)), 0, [], rfl, S238, rfl, TSb.nil, (Sb.lit (n := 0) (by decide)), Sub.cons' rfl rfl (Sub.cons' rfl rfl (Sub.cons' rfl rfl (Sub.cons' rfl rfl (Sub.nil _))))⟩
    · rintro n239 _ t' G243 ⟨rs189, x191, p187, c188, T190, rfl, S242, tT190, sT190, Bo186, hsub244⟩ o245 ho240 hk241
      refine AX.sub hsub244 ?_
      unfold D_impl_Round_pairs_s0 at ho240
      refine AX.seq ?_
      refine AX.region ?_
      refine AO.p rfl (p_lss rfl rfl) ?_
      refine AO.nil ?_
      refine AX.seq ?_
      refine AX.cond rfl (fun c246 => ?_) (fun c246 => ?_)
      · have hd247 := bif_t c246 ho240
        refine AX.skip ?_
        refine AX.seq ?_
        refine AX.block ?_
        refine AX.seq ?_
        refine AX.region ?_
        refine AO.p rfl (p_move rfl) ?_
        refine AO.p rfl (p_assign rfl) ?_
        refine AO.nil ?_
        refine AX.seq ?_
        refine AX.region ?_
        refine AO.p rfl (p_move rfl) ?_
        refine AO.p rfl (p_move rfl) ?_
        obtain ⟨k248, hd249⟩ := chk_some hd247
        refine AO.p rfl (s_indexAr (q := x191.toNat) Try.underlying65 Try.sizeOf2 rfl rfl k248 (z1 _)) ?_
        refine AO.c rfl (s_load Try.isAgg2 rfl (row_cell (S242.get (k := 0) rfl) (ints_get (lt_len h_a0 (inR_lt k248))))) ?_
        refine AO.p rfl (p_lss rfl rfl) ?_
        refine AO.nil ?_
        refine AX.cond rfl (fun c250 => ?_) (fun c250 => ?_)
        · have hd251 := bif_t c250 hd249
          refine AX.region ?_
          refine AO.p rfl (p_move rfl) ?_
          refine AO.p rfl (p_move rfl) ?_
          refine AO.p rfl (p_move rfl) ?_
          obtain ⟨k252, hd253⟩ := chk_some hd251
          refine AO.p rfl (s_indexAr (q := x191.toNat) Try.underlying65 Try.sizeOf2 rfl rfl k252 (z1 _)) ?_
          refine AO.c rfl (s_load Try.isAgg2 rfl (row_cell (S242.get (k := 0) rfl) (ints_get (lt_len h_a0 (inR_lt k252))))) ?_
          obtain ⟨G254, i255, hii255, hHG254, S256⟩ := S242.new (AObj.row false (ints [x191, rd a0 x191.toNat]))
          refine AO.c rfl (s_buildInts (i := i255) (vs := [(0, .int .i64 x191), (1, .int .i64 (rd a0 x191.toNat))]) (xs := [x191, rd a0 x191.toNat]) Try.underlying68 Try.sizeOf2 Try.zeroValue2 rfl rfl (by decide) rfl rfl hii255 hHG254) ?_
          obtain ⟨G258, i259, hii259, hHG258, S260⟩ := S256.new (AObj.row false (tcells ([((some (Addr.mk i255 0 none)), 2, [x191, rd a0 x191.toNat])])))
          have S262 := (S260.front 1 rfl).tone (some (Addr.mk i255 0 none)) 2 [x191, rd a0 x191.toNat] rfl
          refine AO.c rfl (s_buildT1 (i := i259) (X := [((some (Addr.mk i255 0 none)), 2, [x191, rd a0 x191.toNat])]) (n := 2) rfl Try.underlying22 Try.sizeOf68 Try.zeroValue68 rfl rfl hii259 hHG258) ?_
          obtain ⟨k263, hd264⟩ := chk_some hd253
          obtain ⟨p265, c266, G267, haG267, S268, Bp265⟩ := S262.app (k := 3) rfl Bo186 (tcells ([((some (Addr.mk i255 0 none)), 2, [x191, rd a0 x191.toNat])])) 1 (tc_len1 rfl rfl)
          have S269 := S268.cellsEq (k := 3) (us' := tcells (T190 ++ [((some (Addr.mk i255 0 none)), 2, [x191, rd a0 x191.toNat])])) (tcells_app _ _).symm rfl
          have BS269 : Sb p265 ((rs189 ++ [[x191, rd a0 x191.toNat]]).length) c266 1 := (show rs189.length + 1 = (rs189 ++ [[x191, rd a0 x191.toNat]]).length from len_app (a := rs189) (b := [[x191, rd a0 x191.toNat]]) rfl rfl) ▸ Bp265
          have S270 := S269.front 0 rfl
          have S271 := (S270.front 4 rfl).tmerge
          have S272 := S271.drop 1 rfl
          refine AO.c rfl (s_app (by_ := 24) (us := tcells T190) (vs := tcells ([((some (Addr.mk i255 0 none)), 2, [x191, rd a0 x191.toNat])])) Try.underlying22 Try.underlying22 Try.typeInfo68 Try.sizeOf68 Try.zeroValue68 rfl rfl rfl rfl rfl rfl rfl (S262.buf (k := 3) rfl Bo186 (tc_len1 tT190 rfl)) (S262.oview (k := 1) rfl (Sb.lit (n := 1) (by decide)) (tc_len1 rfl rfl)) (tc_len1 rfl rfl) tcells_one k263 haG267 (show rs189.length + 1 = (rs189 ++ [[x191, rd a0 x191.toNat]]).length from len_app (a := rs189) (b := [[x191, rd a0 x191.toNat]]) rfl rfl)) ?_
          refine AO.p rfl (p_assign rfl) ?_
          refine AO.nil ?_
          refine AX.region ?_
          obtain ⟨k273, hd274⟩ := chk_some hd264
          refine AO.p rfl (p_addE rfl rfl k273) ?_
          refine AO.p rfl (p_move rfl) ?_
          refine AO.nil ?_
          obtain rfl := some_inj hd274
          have S276 := S272.front 0 rfl
          have S277 := S276.front 2 rfl
          have S278 := S277.front 2 rfl
          exact ⟨((rs189 ++ [[x191, rd a0 x191.toNat]]), x191 + 1), hk241, (rs189 ++ [[x191, rd a0 x191.toNat]]), (x191 + 1), p265, c266, (T190 ++ [((some (Addr.mk i255 0 none)), 2, [x191, rd a0 x191.toNat])]), rfl, S278, (trows_apps tT190 rfl), (TSb.app sT190 (TSb.one (sb_len rfl (Sb.lit (n := 2) (by decide))))), BS269, Sub.cons' rfl rfl (Sub.cons' rfl rfl (Sub.cons' rfl rfl (Sub.cons' rfl rfl (Sub.nil _))))⟩
        · have hd279 := bif_f c250 hd249
          refine AX.skip ?_
          refine AX.region ?_
          obtain ⟨k280, hd281⟩ := chk_some hd279
          refine AO.p rfl (p_addE rfl rfl k280) ?_
          refine AO.p rfl (p_move rfl) ?_
          refine AO.nil ?_
          obtain rfl := some_inj hd281
          have S283 := S242.front 2 rfl
          have S284 := S283.front 2 rfl
          have S285 := S284.front 2 rfl
          exact ⟨(rs189, x191 + 1), hk241, rs189, (x191 + 1), p187, c188, T190, rfl, S285, tT190, sT190, Bo186, Sub.cons' rfl rfl (Sub.cons' rfl rfl (Sub.cons' rfl rfl (Sub.cons' rfl rfl (Sub.nil _))))⟩
      · have hd286 := bif_f c246 ho240
        refine AX.exit ?_
        obtain rfl := some_inj hd286
        have S287 := S242.front 2 rfl
        have S288 := S287.front 2 rfl
        have S289 := S288.keep 2
        exact ⟨rs189, p187, c188, T190, hk241, S289, tT190, sT190, Bo186, Sub.cons' rfl rfl (Sub.nil _)⟩
  · rintro t' G291 ⟨rs231, p229, c230, T232, rfl, S290, tT232, sT232, Bo228, hsub292⟩
    refine AX.sub hsub292 ?_
    refine AX.seq ?_
    refine AX.region ?_
    refine AO.p rfl (p_move rfl) ?_
    refine AO.p rfl (p_assign rfl) ?_
    refine AO.nil ?_
    refine AX.ret ?_
    obtain rfl := some_inj hd235
    have S293 := S290.front 1 rfl
    have S294 := S293.front 1 rfl
    exact ⟨.inr rfl, _, res1 rfl (rv_tmp rfl), p229, c230, T232, rfl, S294, Bo228, tT232, sT232⟩

set_option maxHeartbeats 4000000 in
theorem W_impl_Square_put (fu : Nat) (H : AHeap) (a0_0 : Int) (p_a0_1 : Option Addr) (c_a0_1 : Nat) (T_a0_1 : Tb) (a0_1 : List (List Int)) (t_a0_1 : trows T_a0_1 = a0_1) (s_a0_1 : Sb p_a0_1 a0_1.length c_a0_1 1) (z_a0_1 : TSb T_a0_1) (a1 : Int) (a2 : Int) (a3 : Int) (a4 : Int) (hn : ((oseg p_a0_1 (tcells T_a0_1) ++ (tseg T_a0_1)).map (·.1)).Nodup) (ho : ∀ x ∈ oseg p_a0_1 (tcells T_a0_1) ++ (tseg T_a0_1), x.1 < H.length ∧ hget H x.1 = x.2) (m_a0_1 : List (List Int)) (hd : D_impl_Square_put fu a0_0 a0_1 a1 a2 a3 a4 = some m_a0_1) : ∃ v G', ACall Try.prog 103 [.agg [.int .i64 a0_0, .slice p_a0_1 a0_1.length c_a0_1].toArray, .int .i64 a1, .int .i64 a2, .int .i64 a3, .int .i64 a4] H v G' ∧ ∃ (T_a0_1' : Tb), (v = .tuple #[]) ∧ St ((oseg p_a0_1 (tcells T_a0_1) ++ (tseg T_a0_1)).map (·.1)) H G' [oseg p_a0_1 (tcells T_a0_1'), tseg T_a0_1'] ∧ trows T_a0_1' = m_a0_1 ∧ TSb T_a0_1' ∧ m_a0_1.length = a0_1.length := by
  refine ACall.bodyX (args := [.agg [.int .i64 a0_0, .slice p_a0_1 a0_1.length c_a0_1].toArray, .int .i64 a1, .int .i64 a2, .int .i64 a3, .int .i64 a4]) (N := 25) [(0, .agg [.int .i64 a0_0, .slice p_a0_1 a0_1.length c_a0_1].toArray), (1, .int .i64 a1), (2, .int .i64 a2), (3, .int .i64 a3), (4, .int .i64 a4)] (fun v G' => ∃ (T_a0_1' : Tb), (v = .tuple #[]) ∧ St ((oseg p_a0_1 (tcells T_a0_1) ++ (tseg T_a0_1)).map (·.1)) H G' [oseg p_a0_1 (tcells T_a0_1'), tseg T_a0_1'] ∧ trows T_a0_1' = m_a0_1 ∧ TSb T_a0_1' ∧ m_a0_1.length = a0_1.length) Try.func103 rfl rfl rfl rfl ?_
  unfold D_impl_Square_put at hd
  have S0 : St ((oseg p_a0_1 (tcells T_a0_1) ++ (tseg T_a0_1)).map (·.1)) H H [oseg p_a0_1 (tcells T_a0_1), tseg T_a0_1] := (St.init (l := oseg p_a0_1 (tcells T_a0_1) ++ (tseg T_a0_1)) hn ho).same (by simp)
  refine AX.seq ?_
  refine AX.region ?_
  obtain ⟨G100, i101, hii101, hHG100, S102⟩ := S0.new (AObj.row false ([.int .i64 a0_0, .slice p_a0_1 a0_1.length c_a0_1]))
  refine AO.c rfl (s_box (i := i101) (cs := [.int .i64 a0_0, .slice p_a0_1 a0_1.length c_a0_1]) rfl hii101 rfl hHG100) ?_
  refine AO.nil ?_
  refine AX.region ?_
  refine AO.p rfl (s_fieldAddr Try.underlying26 rfl Try.sizeOf22 (by decide) rfl rfl) ?_
  refine AO.c rfl (s_load Try.isAgg22 rfl (row_cell (S102.get (k := 0) rfl) rfl)) ?_
  refine AO.p rfl (p_move rfl) ?_
  obtain ⟨k104, hd105⟩ := chk_some hd
  refine AO.p rfl (s_indexV (q := a1.toNat) Try.underlying22 Try.sizeOf68 rfl (s_a0_1.at (inR_pos k104)) rfl k104 (z1 _)) ?_
  obtain ⟨p106, c107, e108, f109⟩ := tget t_a0_1 (lt_len rfl (inR_lt k104))
  refine AO.c rfl (s_load Try.isAgg68 rfl (row_cell (S102.oat (k := 1) rfl (s_a0_1.at (inR_pos k104))) f109)) ?_
  refine AO.p rfl (p_move rfl) ?_
  refine AO.p rfl (p_move rfl) ?_
  refine AO.p rfl (p_move rfl) ?_
  refine AO.p rfl (p_min rfl rfl rfl) ?_
  obtain ⟨k110, hd111⟩ := chk_some hd105
  refine AO.p rfl (p_mulE rfl rfl k110) ?_
  refine AO.p rfl (p_move rfl) ?_
  refine AO.p rfl (p_move rfl) ?_
  refine AO.p rfl (p_max rfl rfl rfl) ?_
  obtain ⟨k112, hd113⟩ := chk_some hd111
  refine AO.p rfl (p_addE rfl rfl k112) ?_
  obtain ⟨k114, hd115⟩ := chk_some hd113
  refine AO.p rfl (s_indexV (q := off p106 + a2.toNat) Try.underlying68 Try.sizeOf2 rfl ((TVw.at (S102.oviewT (k := 2) rfl z_a0_1) e108).p (ints_get (lt_len rfl (inR_lt k114)))) rfl k114 (o1 _ _)) ?_
  obtain ⟨G116, hHG116, S117⟩ := S102.tset (k := 2) rfl e108 ((TSb.at z_a0_1 e108).at (inR_pos k114)) ((rw_ a0_1 a1.toNat).set a2.toNat (14 * (if a4 < a3 then a4 else a3) + (if a4 > a3 then a4 else a3)))
  have S118 := S117.hdr (k := 1) (tcells_set (xs' := ((rw_ a0_1 a1.toNat).set a2.toNat (14 * (if a4 < a3 then a4 else a3) + (if a4 > a3 then a4 else a3)))) e108 (len_set rfl)).symm rfl
  refine AO.s (s_storeO (o := off p106 + a2.toNat) (q := a2.toNat) (off0 ((TSb.at z_a0_1 e108).at (inR_pos k114)) _) Try.sizeOf2 rfl rfl rfl (S102.tat (k := 2) rfl e108 ((TSb.at z_a0_1 e108).at (inR_pos k114))) (lt_len (ints_length _) (inR_lt k114)) ((congrArg (fun l => List.set _ _ (AObj.row false l)) (ints_set _ _ _)).trans hHG116)) ?_
  refine AO.nil ?_
  obtain rfl := some_inj hd115
  have S119 := S118.front 2 rfl
  have S120 := S119.front 2 rfl
  have S121 := S120.keep 2
  exact ⟨.inl rfl, _, res_none rfl, (T_a0_1.set a1.toNat (p106, c107, ((rw_ a0_1 a1.toNat).set a2.toNat (14 * (if a4 < a3 then a4 else a3) + (if a4 > a3 then a4 else a3))))), rfl, S121, (trows_set' t_a0_1), (TSb.set z_a0_1 e108 (len_set rfl)), (len_set rfl)⟩

set_option maxHeartbeats 4000000 in
theorem W_impl_SquareOfSchedules (fu : Nat) (H : AHeap) (a0_0 : Int) (p_a0_1 : Option Addr) (c_a0_1 : Nat) (a0_1 : List (List Int)) (a_a0_1 : All 14 a0_1) (v_a0_1 : Vw H p_a0_1 a0_1.length c_a0_1 (ints a0_1.flatten)) (a1_0 : Int) (p_a1_1 : Option Addr) (c_a1_1 : Nat) (a1_1 : List (List Int)) (a_a1_1 : All 14 a1_1) (v_a1_1 : Vw H p_a1_1 a1_1.length c_a1_1 (ints a1_1.flatten)) (r0 : Int) (r1 : List (List Int)) (r2 : Int) (hd : D_impl_SquareOfSchedules fu a0_0 a0_1 a1_0 a1_1 = some (r0, r1, r2)) : ∃ v G', ACall Try.prog 47 [.agg [.int .i64 a0_0, .slice p_a0_1 a0_1.length c_a0_1].toArray, .agg [.int .i64 a1_0, .slice p_a1_1 a1_1.length c_a1_1].toArray] H v G' ∧ ∃ (p_r1 : Option Addr) (c_r1 : Nat) (T_r1 : Tb), (v = .tuple #[.agg [.int .i64 r0, .slice p_r1 r1.length c_r1].toArray, .int .i64 r2]) ∧ St [] H G' [oseg p_r1 (tcells T_r1), tseg T_r1] ∧ Sb p_r1 r1.length c_r1 1 ∧ trows T_r1 = r1 ∧ TSb T_r1 := by
  refine ACall.bodyX (args := [.agg [.int .i64 a0_0, .slice p_a0_1 a0_1.length c_a0_1].toArray, .agg [.int .i64 a1_0, .slice p_a1_1 a1_1.length c_a1_1].toArray]) (N := 113) [(0, .agg [.int .i64 a0_0, .slice p_a0_1 a0_1.length c_a0_1].toArray), (1, .agg [.int .i64 a1_0, .slice p_a1_1 a1_1.length c_a1_1].toArray)] (fun v G' => ∃ (p_r1 : Option Addr) (c_r1 : Nat) (T_r1 : Tb), (v = .tuple #[.agg [.int .i64 r0, .slice p_r1 r1.length c_r1].toArray, .int .i64 r2]) ∧ St [] H G' [oseg p_r1 (tcells T_r1), tseg T_r1] ∧ Sb p_r1 r1.length c_r1 1 ∧ trows T_r1 = r1 ∧ TSb T_r1) Try.func47 rfl rfl rfl rfl ?_
  unfold D_impl_SquareOfSchedules at hd
  have S0 : St [] H H [] := St.nil H
  refine AX.seq ?_
  refine AX.region ?_
  obtain ⟨G100, i101, hii101, hHG100, S102⟩ := S0.new (AObj.row false ([.int .i64 a0_0, .slice p_a0_1 a0_1.length c_a0_1]))
  refine AO.c rfl (s_box (i := i101) (cs := [.int .i64 a0_0, .slice p_a0_1 a0_1.length c_a0_1]) rfl hii101 rfl hHG100) ?_
  obtain ⟨G104, i105, hii105, hHG104, S106⟩ := S102.new (AObj.row false ([.int .i64 a1_0, .slice p_a1_1 a1_1.length c_a1_1]))
  refine AO.c rfl (s_box (i := i105) (cs := [.int .i64 a1_0, .slice p_a1_1 a1_1.length c_a1_1]) rfl hii105 rfl hHG104) ?_
  obtain ⟨G108, i109, hii109, hHG108, S110⟩ := S106.new (AObj.row false ([.int .i64 0, .slice none 0 0]))
  refine AO.c rfl (s_alloc (i := i109) (cs := [.int .i64 0, .slice none 0 0]) Try.zeroValue26 rfl rfl hii109 hHG108) ?_
  refine AO.p rfl (p_assign rfl) ?_
  refine AO.nil ?_
  refine AX.seq ?_
  refine AX.region ?_
  refine AO.p rfl (s_fieldAddr Try.underlying39 rfl Try.sizeOf2 (by decide) rfl rfl) ?_
  refine AO.c rfl (s_load Try.isAgg2 rfl (row_cell (S110.get (k := 2) rfl) rfl)) ?_
  refine AO.p rfl (p_sub rfl rfl rfl) ?_
  refine AO.p rfl (p_assign rfl) ?_
  refine AO.nil ?_
  refine AX.seq ?_
  refine AX.block ?_
  obtain ⟨r127, hb128, hd129⟩ := bnd_some hd
  refine AX.cut (fun t' H' => ∃ (b126 : Bool), b126 = r127 ∧ St [] H H' [[(i101, AObj.row false ([.int .i64 a0_0, .slice p_a0_1 a0_1.length c_a0_1]))], [(i105, AObj.row false ([.int .i64 a1_0, .slice p_a1_1 a1_1.length c_a1_1]))], [(i109, AObj.row false ([.int .i64 0, .slice none 0 0]))]] ∧ Am.Sub [(2, .pointer (some ⟨i101, 0, none⟩)), (3, .pointer (some ⟨i105, 0, none⟩)), (4, .pointer (some ⟨i109, 0, none⟩)), (6, .int .i64 (IntKind.i64.wrap (a0_0 - 1))), (17, .bool b126)] t') ?_ ?_
  · skip
    refine AX.region ?_
    refine AO.c rfl (s_loadN (vs := [.int .i64 a0_0, .slice p_a0_1 a0_1.length c_a0_1]) Try.isAgg39 Try.sizeOf39 rfl rfl (row_cells (S110.get (k := 2) rfl))) ?_
    obtain ⟨b130, h131, hd132⟩ := bnd_some hb128
    refine AO.c rfl (o_call (vs := [.agg [.int .i64 a0_0, .slice p_a0_1 a0_1.length c_a0_1].toArray]) rfl Try.call66 (W_impl_IsSchedule fu G108 a0_0 p_a0_1 c_a0_1 a0_1 a_a0_1 (S110.view v_a0_1) b130 h131)) ?_
    refine AO.p rfl (p_not rfl) ?_
    refine AO.p rfl (p_move rfl) ?_
    refine AO.cases (d := 21) rfl (fun c134 => ?_) (fun c134 => ?_)
    · have hd135 := bif_t c134 hd132
      refine AO.gn rfl rfl rfl ?_
      refine AO.gn rfl rfl rfl ?_
      refine AO.gn rfl rfl rfl ?_
      refine AO.p rfl (p_pickT rfl rfl) ?_
      refine AO.p rfl (p_assign rfl) ?_
      refine AO.nil ?_
      have S136 := S110.front 0 rfl
      have S137 := S136.front 1 rfl
      have S138 := S137.front 2 rfl
      exact ⟨true, (some_inj hd135), S138, Sub.cons' rfl rfl (Sub.cons' rfl rfl (Sub.cons' rfl rfl (Sub.cons' rfl rfl (Sub.cons' rfl rfl (Sub.nil _)))))⟩
    · have hd139 := bif_f c134 hd132
      refine AO.gc rfl rfl rfl (s_loadN (vs := [.int .i64 a1_0, .slice p_a1_1 a1_1.length c_a1_1]) Try.isAgg39 Try.sizeOf39 rfl rfl (row_cells (S110.get (k := 1) rfl))) ?_
      obtain ⟨b140, h141, hd142⟩ := bnd_some hd139
      refine AO.gc rfl rfl rfl (o_call (vs := [.agg [.int .i64 a1_0, .slice p_a1_1 a1_1.length c_a1_1].toArray]) rfl Try.call66 (W_impl_IsSchedule fu G108 a1_0 p_a1_1 c_a1_1 a1_1 a_a1_1 (S110.view v_a1_1) b140 h141)) ?_
      refine AO.gp rfl rfl rfl (p_not rfl) ?_
      refine AO.p rfl (p_pickF rfl rfl) ?_
      refine AO.p rfl (p_assign rfl) ?_
      refine AO.nil ?_
      have S144 := S110.front 0 rfl
      have S145 := S144.front 1 rfl
      have S146 := S145.front 2 rfl
      exact ⟨(!b140), (some_inj hd142), S146, Sub.cons' rfl rfl (Sub.cons' rfl rfl (Sub.cons' rfl rfl (Sub.cons' rfl rfl (Sub.cons' rfl rfl (Sub.nil _)))))⟩
  · rintro t' G148 ⟨b126, rfl, S147, hsub149⟩
    refine AX.sub hsub149 ?_
    refine AX.cond rfl (fun c150 => ?_) (fun c150 => ?_)
    · have hd151 := bif_t c150 hd129
      refine AX.seq ?_
      refine AX.region ?_
      refine AO.p rfl (p_build2 (vs := []) (cs := [.int .i64 0, .slice none 0 0]) Try.underlying26 rfl rfl rfl Try.sizeOf2 Try.sizeOf22 Try.zeroValue26 rfl rfl rfl rfl rfl) ?_
      obtain ⟨G152, hHG152, S153⟩ := S147.set (k := 2) (i := i109) rfl (AObj.row false ([.int .i64 0, .slice none 0 0]))
      refine AO.s (s_storeAll (vs := [.int .i64 0, .slice none 0 0]) Try.sizeOf26 rfl rfl (ones_list rfl) (S147.get (k := 2) rfl) rfl rfl hHG152) ?_
      refine AO.p rfl (p_assign rfl) ?_
      refine AO.nil ?_
      refine AX.ret ?_
      obtain ⟨rfl, z154⟩ := Prod.mk.inj (some_inj hd151)
      obtain ⟨rfl, rfl⟩ := Prod.mk.inj z154
      have S156 : St [] H G152 (tseg [] :: _) := S153.nilseg 0
      have S157 : St [] H G152 (oseg none (tcells []) :: _) := S156.nilseg 0
      have S158 := S157.keep 2
      exact ⟨.inr rfl, _, res2 rfl (rv_cell (vs := [.int .i64 0, .slice none 0 0]) rfl Try.isAgg26 Try.sizeOf26 rfl (row_cells (S153.get (k := 2) rfl))) (rv_tmp rfl), none, 0, [], rfl, S158, Sb.nil, rfl, TSb.nil⟩
    · have hd159 := bif_f c150 hd129
      obtain ⟨r181, hb182, hd183⟩ := bnd_some hd159
      refine AX.cut (fun t' H' => ∃ (b180 : Bool), b180 = r181 ∧ St [] H H' [[(i101, AObj.row false ([.int .i64 a0_0, .slice p_a0_1 a0_1.length c_a0_1]))], [(i105, AObj.row false ([.int .i64 a1_0, .slice p_a1_1 a1_1.length c_a1_1]))], [(i109, AObj.row false ([.int .i64 0, .slice none 0 0]))]] ∧ Am.Sub [(2, .pointer (some ⟨i101, 0, none⟩)), (3, .pointer (some ⟨i105, 0, none⟩)), (4, .pointer (some ⟨i109, 0, none⟩)), (6, .int .i64 (IntKind.i64.wrap (a0_0 - 1))), (27, .bool b180)] t') ?_ ?_
      · skip
        refine AX.region ?_
        refine AO.p rfl (s_fieldAddr Try.underlying39 rfl Try.sizeOf2 (by decide) rfl rfl) ?_
        refine AO.c rfl (s_load Try.isAgg2 rfl (row_cell (S147.get (k := 1) rfl) rfl)) ?_
        refine AO.p rfl (s_fieldAddr Try.underlying39 rfl Try.sizeOf2 (by decide) rfl rfl) ?_
        refine AO.c rfl (s_load Try.isAgg2 rfl (row_cell (S147.get (k := 0) rfl) rfl)) ?_
        refine AO.p rfl (p_neq rfl rfl) ?_
        refine AO.p rfl (p_move rfl) ?_
        refine AO.cases (d := 33) rfl (fun c184 => ?_) (fun c184 => ?_)
        · have hd185 := bif_t c184 hb182
          refine AO.gn rfl rfl rfl ?_
          refine AO.gn rfl rfl rfl ?_
          refine AO.gn rfl rfl rfl ?_
          refine AO.p rfl (p_pickT rfl rfl) ?_
          refine AO.p rfl (p_move rfl) ?_
          refine AO.gn rfl rfl rfl ?_
          refine AO.gn rfl rfl rfl ?_
          refine AO.gn rfl rfl rfl ?_
          refine AO.gn rfl rfl rfl ?_
          refine AO.gn rfl rfl rfl ?_
          refine AO.p rfl (p_pickT rfl rfl) ?_
          refine AO.p rfl (p_move rfl) ?_
          refine AO.gn rfl rfl rfl ?_
          refine AO.gn rfl rfl rfl ?_
          refine AO.gn rfl rfl rfl ?_
          refine AO.gn rfl rfl rfl ?_
          refine AO.gn rfl rfl rfl ?_
          refine AO.p rfl (p_pickT rfl rfl) ?_
          refine AO.p rfl (p_assign rfl) ?_
          refine AO.nil ?_
          have S186 := S147.front 2 rfl
          have S187 := S186.front 2 rfl
          have S188 := S187.front 2 rfl
          exact ⟨true, (some_inj hd185), S188, Sub.cons' rfl rfl (Sub.cons' rfl rfl (Sub.cons' rfl rfl (Sub.cons' rfl rfl (Sub.cons' rfl rfl (Sub.nil _)))))⟩
        · have hd189 := bif_f c184 hb182
          refine AO.gp rfl rfl rfl (p_move rfl) ?_
          refine AO.gp rfl rfl rfl (p_remE rfl rfl (by decide)) ?_
          refine AO.gp rfl rfl rfl (p_eql rfl rfl) ?_
          refine AO.p rfl (p_pickF rfl rfl) ?_
          refine AO.p rfl (p_move rfl) ?_
          refine AO.cases (d := 38) rfl (fun c190 => ?_) (fun c190 => ?_)
          · have hd191 := bif_t c190 hd189
            refine AO.gn rfl rfl rfl ?_
            refine AO.gn rfl rfl rfl ?_
            refine AO.gn rfl rfl rfl ?_
            refine AO.gn rfl rfl rfl ?_
            refine AO.gn rfl rfl rfl ?_
            refine AO.p rfl (p_pickT rfl rfl) ?_
            refine AO.p rfl (p_move rfl) ?_
            refine AO.gn rfl rfl rfl ?_
            refine AO.gn rfl rfl rfl ?_
            refine AO.gn rfl rfl rfl ?_
            refine AO.gn rfl rfl rfl ?_
            refine AO.gn rfl rfl rfl ?_
            refine AO.p rfl (p_pickT rfl rfl) ?_
            refine AO.p rfl (p_assign rfl) ?_
            refine AO.nil ?_
            have S192 := S147.front 2 rfl
            have S193 := S192.front 2 rfl
            have S194 := S193.front 2 rfl
            exact ⟨true, (some_inj hd191), S194, Sub.cons' rfl rfl (Sub.cons' rfl rfl (Sub.cons' rfl rfl (Sub.cons' rfl rfl (Sub.cons' rfl rfl (Sub.nil _)))))⟩
          · have hd195 := bif_f c190 hd189
            refine AO.gp rfl rfl rfl (s_fieldAddr Try.underlying39 rfl Try.sizeOf37 (by decide) rfl rfl) ?_
            refine AO.gc rfl rfl rfl (s_load Try.isAgg37 rfl (row_cell (S147.get (k := 0) rfl) rfl)) ?_
            obtain ⟨x196, h197, hd198⟩ := bnd_some hd195
            refine AO.gc rfl rfl rfl (o_call (vs := [.slice p_a0_1 a0_1.length c_a0_1]) rfl Try.call101 (W_impl_size_impl_Round fu G148 p_a0_1 c_a0_1 a0_1 a_a0_1 (S147.view v_a0_1) x196 h197)) ?_
            refine AO.gp rfl rfl rfl (p_move rfl) ?_
            refine AO.gp rfl rfl rfl (p_neq rfl rfl) ?_
            refine AO.p rfl (p_pickF rfl rfl) ?_
            refine AO.p rfl (p_move rfl) ?_
            refine AO.cases (d := 45) rfl (fun c200 => ?_) (fun c200 => ?_)
            · have hd201 := bif_t c200 hd198
              refine AO.gn rfl rfl rfl ?_
              refine AO.gn rfl rfl rfl ?_
              refine AO.gn rfl rfl rfl ?_
              refine AO.gn rfl rfl rfl ?_
              refine AO.gn rfl rfl rfl ?_
              refine AO.p rfl (p_pickT rfl rfl) ?_
              refine AO.p rfl (p_assign rfl) ?_
              refine AO.nil ?_
              have S202 := S147.front 2 rfl
              have S203 := S202.front 2 rfl
              have S204 := S203.front 2 rfl
              exact ⟨true, (some_inj hd201), S204, Sub.cons' rfl rfl (Sub.cons' rfl rfl (Sub.cons' rfl rfl (Sub.cons' rfl rfl (Sub.cons' rfl rfl (Sub.nil _)))))⟩
            · have hd205 := bif_f c200 hd198
              refine AO.gp rfl rfl rfl (s_fieldAddr Try.underlying39 rfl Try.sizeOf37 (by decide) rfl rfl) ?_
              refine AO.gc rfl rfl rfl (s_load Try.isAgg37 rfl (row_cell (S147.get (k := 1) rfl) rfl)) ?_
              obtain ⟨x206, h207, hd208⟩ := bnd_some hd205
              refine AO.gc rfl rfl rfl (o_call (vs := [.slice p_a1_1 a1_1.length c_a1_1]) rfl Try.call101 (W_impl_size_impl_Round fu G148 p_a1_1 c_a1_1 a1_1 a_a1_1 (S147.view v_a1_1) x206 h207)) ?_
              refine AO.gp rfl rfl rfl (p_move rfl) ?_
              refine AO.gp rfl rfl rfl (p_neq rfl rfl) ?_
              refine AO.p rfl (p_pickF rfl rfl) ?_
              refine AO.p rfl (p_assign rfl) ?_
              refine AO.nil ?_
              have S210 := S147.front 2 rfl
              have S211 := S210.front 2 rfl
              have S212 := S211.front 2 rfl
              exact ⟨(!decide (x206 = IntKind.i64.wrap (a0_0 - 1))), (some_inj hd208), S212, Sub.cons' rfl rfl (Sub.cons' rfl rfl (Sub.cons' rfl rfl (Sub.cons' rfl rfl (Sub.cons' rfl rfl (Sub.nil _)))))⟩
      · rintro t' G214 ⟨b180, rfl, S213, hsub215⟩
        refine AX.sub hsub215 ?_
        refine AX.cond rfl (fun c216 => ?_) (fun c216 => ?_)
        · have hd217 := bif_t c216 hd183
          refine AX.seq ?_
          refine AX.region ?_
          refine AO.p rfl (p_build2 (vs := []) (cs := [.int .i64 0, .slice none 0 0]) Try.underlying26 rfl rfl rfl Try.sizeOf2 Try.sizeOf22 Try.zeroValue26 rfl rfl rfl rfl rfl) ?_
          obtain ⟨G218, hHG218, S219⟩ := S213.set (k := 2) (i := i109) rfl (AObj.row false ([.int .i64 0, .slice none 0 0]))
          refine AO.s (s_storeAll (vs := [.int .i64 0, .slice none 0 0]) Try.sizeOf26 rfl rfl (ones_list rfl) (S213.get (k := 2) rfl) rfl rfl hHG218) ?_
          refine AO.p rfl (p_assign rfl) ?_
          refine AO.nil ?_
          refine AX.ret ?_
          obtain ⟨rfl, z220⟩ := Prod.mk.inj (some_inj hd217)
          obtain ⟨rfl, rfl⟩ := Prod.mk.inj z220
          have S222 : St [] H G218 (tseg [] :: _) := S219.nilseg 0
          have S223 : St [] H G218 (oseg none (tcells []) :: _) := S222.nilseg 0
          have S224 := S223.keep 2
          exact ⟨.inr rfl, _, res2 rfl (rv_cell (vs := [.int .i64 0, .slice none 0 0]) rfl Try.isAgg26 Try.sizeOf26 rfl (row_cells (S219.get (k := 2) rfl))) (rv_tmp rfl), none, 0, [], rfl, S224, Sb.nil, rfl, TSb.nil⟩
        · have hd225 := bif_f c216 hd183
          refine AX.skip ?_
          refine AX.seq ?_
          refine AX.region ?_
          refine AO.p rfl (p_move rfl) ?_
          obtain ⟨⟨x226, rs227⟩, h228, hd229⟩ := bnd_some hd225
          obtain ⟨_, G238, hc237, p230, c231, T234, rfl, S239, B233, t235, s236⟩ := W_impl_emptySquare fu G214 (IntKind.i64.wrap (a0_0 - 1)) x226 rs227 h228
          have S240 := S213.call S239
          refine AO.c rfl (o_call (vs := [.int .i64 (IntKind.i64.wrap (a0_0 - 1))]) rfl Try.call102 hc237) ?_
          obtain ⟨G241, i242, hii242, hHG241, S243⟩ := S240.new (AObj.row false ([.int .i64 0, .slice none 0 0]))
          refine AO.c rfl (s_alloc (i := i242) (cs := [.int .i64 0, .slice none 0 0]) Try.zeroValue26 rfl rfl hii242 hHG241) ?_
          obtain ⟨G245, hHG245, S246⟩ := S243.set (k := 0) (i := i242) rfl (AObj.row false ([.int .i64 x226, .slice p230 rs227.length c231]))
          refine AO.s (s_storeAll (vs := [.int .i64 x226, .slice p230 rs227.length c231]) Try.sizeOf26 rfl rfl (ones_list rfl) (S243.get (k := 0) rfl) rfl rfl hHG245) ?_
          refine AO.nil ?_
          refine AX.seq ?_
          refine AX.seq ?_
          refine AX.region ?_
          refine AO.p rfl (s_fieldAddr Try.underlying39 rfl Try.sizeOf37 (by decide) rfl rfl) ?_
          refine AO.c rfl (s_load Try.isAgg37 rfl (row_cell (S246.get (k := 3) rfl) rfl)) ?_
          refine AO.p rfl (p_len_slice rfl Try.underlying37) ?_
          refine AO.p rfl (p_move rfl) ?_
          refine AO.nil ?_
          obtain ⟨r4701, hl4702, hd4703⟩ := bnd_some hd229
          refine AX.cutQ (fun t' H' => ∃ (rs4699 : List (List Int)) (T4700 : Tb), .inl rs4699 = r4701 ∧ St [] H H' [[(i109, AObj.row false ([.int .i64 0, .slice none 0 0]))], [(i242, AObj.row false ([.int .i64 x226, .slice p230 rs227.length c231]))], oseg p230 (tcells T4700), tseg T4700] ∧ rs4699.length = rs227.length ∧ trows T4700 = rs4699 ∧ TSb T4700 ∧ Am.Sub [(4, .pointer (some ⟨i109, 0, none⟩)), (7, .pointer (some ⟨i242, 0, none⟩))] t') ?_ ?_
          · refine AX.block ?_
            refine AX.loopF (fun s' t' H' => ∃ (rs3217 : List (List Int)) (x3219 : Int) (T3218 : Tb), (rs3217, x3219) = s' ∧ St [] H H' [[(i101, AObj.row false ([.int .i64 a0_0, .slice p_a0_1 a0_1.length c_a0_1]))], [(i105, AObj.row false ([.int .i64 a1_0, .slice p_a1_1 a1_1.length c_a1_1]))], [(i109, AObj.row false ([.int .i64 0, .slice none 0 0]))], [(i242, AObj.row false ([.int .i64 x226, .slice p230 rs227.length c231]))], oseg p230 (tcells T3218), tseg T3218] ∧ rs3217.length = rs227.length ∧ trows T3218 = rs3217 ∧ TSb T3218 ∧ Am.Sub [(2, .pointer (some ⟨i101, 0, none⟩)), (3, .pointer (some ⟨i105, 0, none⟩)), (4, .pointer (some ⟨i109, 0, none⟩)), (7, .pointer (some ⟨i242, 0, none⟩)), (56, .slice p_a0_1 a0_1.length c_a0_1), (57, .int .i64 ((a0_1.length : Nat) : Int)), (58, .int .i64 x3219)] t') hl4702 ?_ ?_
            · skip
              have S4704 := S246.front 2 rfl
              have S4705 := S4704.front 2 rfl
              have S4706 := S4705.front 2 rfl
              have S4707 := S4706.front 5 rfl
              have S4708 := S4707.front 5 rfl
              have S4709 := S4708.front 5 rfl
              exact ⟨rs227, 0, T234, rfl, S4709, rfl, t235, s236, Sub.cons' rfl rfl (Sub.cons' rfl rfl (Sub.cons' rfl rfl (Sub.cons' rfl rfl (Sub.cons' rfl rfl (Sub.cons' rfl rfl (Sub.cons' rfl rfl (Sub.nil _)))))))⟩
            · rintro n4710 _ t' G4714 ⟨rs3217, x3219, T3218, rfl, S4713, lrs3217, tT3218, sT3218, hsub4715⟩ o4716 ho4711 hk4712
              refine AX.sub hsub4715 ?_
              unfold D_impl_SquareOfSchedules_s0 at ho4711
              refine AX.seq ?_
              refine AX.region ?_
              refine AO.p rfl (p_lss rfl rfl) ?_
              refine AO.nil ?_
              refine AX.seq ?_
              refine AX.cond rfl (fun c4717 => ?_) (fun c4717 => ?_)
              · have hd4718 := bif_t c4717 ho4711
                refine AX.skip ?_
                refine AX.seq ?_
                refine AX.block ?_
                refine AX.seq ?_
                refine AX.region ?_
                refine AO.p rfl (p_move rfl) ?_
                obtain ⟨k4719, hd4720⟩ := chk_some hd4718
                refine AO.p rfl (s_indexV (q := off p_a0_1 + x3219.toNat * 14) Try.underlying37 Try.sizeOf65 rfl ((S4713.view v_a0_1).rowne a_a0_1 (by decide) (lt_len rfl (inR_lt k4719))) rfl k4719 rfl) ?_
                refine AO.c rfl (s_loadN (vs := ints (rw_ a0_1 x3219.toNat)) Try.isAgg65 Try.sizeOf65 rfl (ints_len (rw_len a_a0_1 (lt_len rfl (inR_lt k4719)))) ((S4713.view v_a0_1).row a_a0_1 (lt_len rfl (inR_lt k4719)))) ?_
                obtain ⟨G4721, i4722, hii4722, hHG4721, S4723⟩ := S4713.new (AObj.row false (ints (List.replicate 14 0)))
                refine AO.c rfl (s_alloc (i := i4722) (cs := ints (List.replicate 14 0)) Try.zeroValue65 rfl rfl hii4722 hHG4721) ?_
                refine AO.p rfl (p_assign rfl) ?_
                obtain ⟨G4725, hHG4725, S4726⟩ := S4723.set (k := 0) (i := i4722) rfl (AObj.row false (ints (rw_ a0_1 x3219.toNat)))
                refine AO.s (s_storeAll (vs := ints (rw_ a0_1 x3219.toNat)) Try.sizeOf65 rfl rfl ints_one (S4723.get (k := 0) rfl) (ints_len (rw_len a_a0_1 (lt_len rfl (inR_lt k4719)))) (ints_len len_rep) hHG4725) ?_
                refine AO.nil ?_
                refine AX.seq ?_
                refine AX.region ?_
                refine AO.p rfl (s_fieldAddr Try.underlying39 rfl Try.sizeOf37 (by decide) rfl rfl) ?_
                refine AO.c rfl (s_load Try.isAgg37 rfl (row_cell (S4726.get (k := 2) rfl) rfl)) ?_
                refine AO.p rfl (p_len_slice rfl Try.underlying37) ?_
                refine AO.p rfl (p_move rfl) ?_
                refine AO.nil ?_
                obtain ⟨r5814, hl5815, hd5816⟩ := bnd_some hd4720
                refine AX.cutQ (fun t' H' => ∃ (rs5812 : List (List Int)) (T5813 : Tb), .inl rs5812 = r5814 ∧ St [] H H' [[(i101, AObj.row false ([.int .i64 a0_0, .slice p_a0_1 a0_1.length c_a0_1]))], [(i105, AObj.row false ([.int .i64 a1_0, .slice p_a1_1 a1_1.length c_a1_1]))], [(i109, AObj.row false ([.int .i64 0, .slice none 0 0]))], [(i242, AObj.row false ([.int .i64 x226, .slice p230 rs227.length c231]))], oseg p230 (tcells T5813), tseg T5813] ∧ rs5812.length = rs227.length ∧ trows T5813 = rs5812 ∧ TSb T5813 ∧ Am.Sub [(2, .pointer (some ⟨i101, 0, none⟩)), (3, .pointer (some ⟨i105, 0, none⟩)), (4, .pointer (some ⟨i109, 0, none⟩)), (7, .pointer (some ⟨i242, 0, none⟩)), (56, .slice p_a0_1 a0_1.length c_a0_1), (57, .int .i64 ((a0_1.length : Nat) : Int)), (58, .int .i64 x3219)] t') ?_ ?_
                · refine AX.block ?_
                  refine AX.loopF (fun s' t' H' => ∃ (rs5451 : List (List Int)) (x5454 : Int) (T5452 : Tb), (rs5451, x5454) = s' ∧ St [] H H' [[(i101, AObj.row false ([.int .i64 a0_0, .slice p_a0_1 a0_1.length c_a0_1]))], [(i105, AObj.row false ([.int .i64 a1_0, .slice p_a1_1 a1_1.length c_a1_1]))], [(i109, AObj.row false ([.int .i64 0, .slice none 0 0]))], [(i242, AObj.row false ([.int .i64 x226, .slice p230 rs227.length c231]))], oseg p230 (tcells T5452), tseg T5452, [(i4722, AObj.row false (ints (rw_ a0_1 x3219.toNat)))]] ∧ rs5451.length = rs227.length ∧ trows T5452 = rs5451 ∧ TSb T5452 ∧ Am.Sub [(2, .pointer (some ⟨i101, 0, none⟩)), (3, .pointer (some ⟨i105, 0, none⟩)), (4, .pointer (some ⟨i109, 0, none⟩)), (7, .pointer (some ⟨i242, 0, none⟩)), (8, .int .i64 x3219), (9, .pointer (some ⟨i4722, 0, none⟩)), (56, .slice p_a0_1 a0_1.length c_a0_1), (57, .int .i64 ((a0_1.length : Nat) : Int)), (58, .int .i64 x3219), (64, .slice p_a1_1 a1_1.length c_a1_1), (65, .int .i64 ((a1_1.length : Nat) : Int)), (66, .int .i64 x5454)] t') hl5815 ?_ ?_
                  · skip
                    have S5817 := S4726.front 0 rfl
                    have S5818 := S5817.front 6 rfl
                    have S5819 := S5818.front 6 rfl
                    have S5820 := S5819.front 6 rfl
                    have S5821 := S5820.front 6 rfl
                    have S5822 := S5821.front 6 rfl
                    have S5823 := S5822.front 6 rfl
                    exact ⟨rs3217, 0, T3218, rfl, S5823, lrs3217, tT3218, sT3218, Sub.cons' rfl rfl (Sub.cons' rfl rfl (Sub.cons' rfl rfl (Sub.cons' rfl rfl (Sub.cons' rfl rfl (Sub.cons' rfl rfl (Sub.cons' rfl rfl (Sub.cons' rfl rfl (Sub.cons' rfl rfl (Sub.cons' rfl rfl (Sub.cons' rfl rfl (Sub.cons' rfl rfl (Sub.nil _))))))))))))⟩
                  · rintro n5824 _ t' G5828 ⟨rs5451, x5454, T5452, rfl, S5827, lrs5451, tT5452, sT5452, hsub5829⟩ o5830 ho5825 hk5826
                    refine AX.sub hsub5829 ?_
                    unfold D_impl_SquareOfSchedules_s1 at ho5825
                    refine AX.seq ?_
                    refine AX.region ?_
                    refine AO.p rfl (p_lss rfl rfl) ?_
                    refine AO.nil ?_
                    refine AX.seq ?_
                    refine AX.cond rfl (fun c5831 => ?_) (fun c5831 => ?_)
                    · have hd5832 := bif_t c5831 ho5825
                      refine AX.skip ?_
                      refine AX.seq ?_
                      refine AX.block ?_
                      refine AX.seq ?_
                      refine AX.region ?_
                      refine AO.p rfl (p_move rfl) ?_
                      obtain ⟨k5833, hd5834⟩ := chk_some hd5832
                      refine AO.p rfl (s_indexV (q := off p_a1_1 + x5454.toNat * 14) Try.underlying37 Try.sizeOf65 rfl ((S5827.view v_a1_1).rowne a_a1_1 (by decide) (lt_len rfl (inR_lt k5833))) rfl k5833 rfl) ?_
                      refine AO.c rfl (s_loadN (vs := ints (rw_ a1_1 x5454.toNat)) Try.isAgg65 Try.sizeOf65 rfl (ints_len (rw_len a_a1_1 (lt_len rfl (inR_lt k5833)))) ((S5827.view v_a1_1).row a_a1_1 (lt_len rfl (inR_lt k5833)))) ?_
                      obtain ⟨G5835, i5836, hii5836, hHG5835, S5837⟩ := S5827.new (AObj.row false (ints (List.replicate 14 0)))
                      refine AO.c rfl (s_alloc (i := i5836) (cs := ints (List.replicate 14 0)) Try.zeroValue65 rfl rfl hii5836 hHG5835) ?_
                      refine AO.p rfl (p_assign rfl) ?_
                      obtain ⟨G5839, hHG5839, S5840⟩ := S5837.set (k := 0) (i := i5836) rfl (AObj.row false (ints (rw_ a1_1 x5454.toNat)))
                      refine AO.s (s_storeAll (vs := ints (rw_ a1_1 x5454.toNat)) Try.sizeOf65 rfl rfl ints_one (S5837.get (k := 0) rfl) (ints_len (rw_len a_a1_1 (lt_len rfl (inR_lt k5833)))) (ints_len len_rep) hHG5839) ?_
                      refine AO.nil ?_
                      refine AX.seq ?_
                      refine AX.region ?_
                      refine AO.c rfl (s_loadN (vs := ints (rw_ a0_1 x3219.toNat)) Try.isAgg65 Try.sizeOf65 rfl (ints_len (rw_len a_a0_1 (lt_len rfl (inR_lt k4719)))) (row_cells (S5840.get (k := 7) rfl))) ?_
                      refine AO.p rfl (s_fieldAddr Try.underlying39 rfl Try.sizeOf2 (by decide) rfl rfl) ?_
                      refine AO.c rfl (s_load Try.isAgg2 rfl (row_cell (S5840.get (k := 1) rfl) rfl)) ?_
                      obtain ⟨rs5841, h5842, hd5843⟩ := bnd_some hd5834
                      obtain ⟨_, G5852, hc5851, p5844, c5845, T5848, rfl, S5853, B5847, t5849, s5850⟩ := W_impl_Round_pairs fu G5839 (rw_ a0_1 x3219.toNat) (rw_len a_a0_1 (lt_len rfl (inR_lt k4719))) a0_0 rs5841 h5842
                      have S5854 := S5840.call S5853
                      refine AO.c rfl (o_call (vs := [.agg (ints (rw_ a0_1 x3219.toNat)).toArray, .int .i64 a0_0]) rfl Try.call86 hc5851) ?_
                      refine AO.p rfl (p_len_slice rfl Try.underlying22) ?_
                      refine AO.p rfl (p_move rfl) ?_
                      refine AO.nil ?_
                      obtain ⟨r6070, hl6071, hd6072⟩ := bnd_some hd5843
                      refine AX.cutQ (fun t' H' => ∃ (rs6067 : List (List Int)) (T6068 : Tb), .inl rs6067 = r6070 ∧ St [] H H' [[(i101, AObj.row false ([.int .i64 a0_0, .slice p_a0_1 a0_1.length c_a0_1]))], [(i105, AObj.row false ([.int .i64 a1_0, .slice p_a1_1 a1_1.length c_a1_1]))], [(i109, AObj.row false ([.int .i64 0, .slice none 0 0]))], [(i242, AObj.row false ([.int .i64 x226, .slice p230 rs227.length c231]))], oseg p230 (tcells T6068), tseg T6068, [(i4722, AObj.row false (ints (rw_ a0_1 x3219.toNat)))]] ∧ rs6067.length = rs227.length ∧ trows T6068 = rs6067 ∧ TSb T6068 ∧ Am.Sub [(2, .pointer (some ⟨i101, 0, none⟩)), (3, .pointer (some ⟨i105, 0, none⟩)), (4, .pointer (some ⟨i109, 0, none⟩)), (7, .pointer (some ⟨i242, 0, none⟩)), (8, .int .i64 x3219), (9, .pointer (some ⟨i4722, 0, none⟩)), (56, .slice p_a0_1 a0_1.length c_a0_1), (57, .int .i64 ((a0_1.length : Nat) : Int)), (58, .int .i64 x3219), (64, .slice p_a1_1 a1_1.length c_a1_1), (65, .int .i64 ((a1_1.length : Nat) : Int)), (66, .int .i64 x5454)] t') ?_ ?_
                      · refine AX.block ?_
                        refine AX.loopF (fun s' t' H' => ∃ (rs5997 : List (List Int)) (x6002 : Int) (T5998 : Tb), (rs5997, x6002) = s' ∧ St [] H H' [[(i101, AObj.row false ([.int .i64 a0_0, .slice p_a0_1 a0_1.length c_a0_1]))], [(i105, AObj.row false ([.int .i64 a1_0, .slice p_a1_1 a1_1.length c_a1_1]))], [(i109, AObj.row false ([.int .i64 0, .slice none 0 0]))], [(i242, AObj.row false ([.int .i64 x226, .slice p230 rs227.length c231]))], oseg p230 (tcells T5998), tseg T5998, [(i4722, AObj.row false (ints (rw_ a0_1 x3219.toNat)))], [(i5836, AObj.row false (ints (rw_ a1_1 x5454.toNat)))], oseg p5844 (tcells T5848), tseg T5848] ∧ rs5997.length = rs227.length ∧ trows T5998 = rs5997 ∧ TSb T5998 ∧ Am.Sub [(2, .pointer (some ⟨i101, 0, none⟩)), (3, .pointer (some ⟨i105, 0, none⟩)), (4, .pointer (some ⟨i109, 0, none⟩)), (7, .pointer (some ⟨i242, 0, none⟩)), (8, .int .i64 x3219), (9, .pointer (some ⟨i4722, 0, none⟩)), (10, .int .i64 x5454), (11, .pointer (some ⟨i5836, 0, none⟩)), (56, .slice p_a0_1 a0_1.length c_a0_1), (57, .int .i64 ((a0_1.length : Nat) : Int)), (58, .int .i64 x3219), (64, .slice p_a1_1 a1_1.length c_a1_1), (65, .int .i64 ((a1_1.length : Nat) : Int)), (66, .int .i64 x5454), (74, .slice p5844 rs5841.length c5845), (75, .int .i64 ((rs5841.length : Nat) : Int)), (76, .int .i64 x6002)] t') hl6071 ?_ ?_
                        · skip
                          have S6073 := S5854.front 1 rfl
                          have S6074 := S6073.front 1 rfl
                          have S6075 := S6074.front 2 rfl
                          have S6076 := S6075.front 9 rfl
                          have S6077 := S6076.front 9 rfl
                          have S6078 := S6077.front 9 rfl
                          have S6079 := S6078.front 9 rfl
                          have S6080 := S6079.front 9 rfl
                          have S6081 := S6080.front 9 rfl
                          have S6082 := S6081.front 9 rfl
                          exact ⟨rs5451, 0, T5452, rfl, S6082, lrs5451, tT5452, sT5452, Sub.cons' rfl rfl (Sub.cons' rfl rfl (Sub.cons' rfl rfl (Sub.cons' rfl rfl (Sub.cons' rfl rfl (Sub.cons' rfl rfl (Sub.cons' rfl rfl (Sub.cons' rfl rfl (Sub.cons' rfl rfl (Sub.cons' rfl rfl (Sub.cons' rfl rfl (Sub.cons' rfl rfl (Sub.cons' rfl rfl (Sub.cons' rfl rfl (Sub.cons' rfl rfl (Sub.cons' rfl rfl (Sub.cons' rfl rfl (Sub.nil _)))))))))))))))))⟩
                        · rintro n6083 _ t' G6087 ⟨rs5997, x6002, T5998, rfl, S6086, lrs5997, tT5998, sT5998, hsub6088⟩ o6089 ho6084 hk6085
                          refine AX.sub hsub6088 ?_
                          unfold D_impl_SquareOfSchedules_s2 at ho6084
                          refine AX.seq ?_
                          refine AX.region ?_
                          refine AO.p rfl (p_lss rfl rfl) ?_
                          refine AO.nil ?_
                          refine AX.seq ?_
                          refine AX.cond rfl (fun c6090 => ?_) (fun c6090 => ?_)
                          · have hd6091 := bif_t c6090 ho6084
                            refine AX.skip ?_
                            refine AX.seq ?_
                            refine AX.block ?_
                            refine AX.seq ?_
                            refine AX.region ?_
                            obtain ⟨k6092, hd6093⟩ := chk_some hd6091
                            refine AO.p rfl (s_indexV (q := x6002.toNat) Try.underlying22 Try.sizeOf68 rfl (B5847.at (inR_pos k6092)) rfl k6092 (z1 _)) ?_
                            obtain ⟨p6094, c6095, e6096, f6097⟩ := tget t5849 (lt_len rfl (inR_lt k6092))
                            refine AO.c rfl (s_load Try.isAgg68 rfl (row_cell (S6086.oat (k := 8) rfl (B5847.at (inR_pos k6092))) f6097)) ?_
                            refine AO.p rfl (p_assign rfl) ?_
                            refine AO.nil ?_
                            refine AX.seq ?_
                            refine AX.seq ?_
                            refine DR.startS [false, false, false, false, false, false, false, false, false] mix (by kernel_rfl) (fun hst => ?_)
                            refine DR.p rfl rfl (p_move rfl) ?_
                            obtain ⟨k6098, hd6099⟩ := chk_some hd6093
                            refine DR.p rfl rfl (s_indexV (q := off p6094 + 0) Try.underlying68 Try.sizeOf2 rfl ((TVw.at (S6086.oviewT (k := 9) rfl s5850) e6096).p (ints_get (lt_len rfl (inR_lt k6098)))) rfl k6098 (o1 _ _)) ?_
                            refine DR.r rfl rfl (r_load rfl Try.isAgg2) (one_read ((TVw.at (S6086.oviewT (k := 9) rfl s5850) e6096).get _ _ (ints_get (lt_len rfl (inR_lt k6098)))) (.of_flat0 rfl)) ?_
                            obtain ⟨k6100, hd6101⟩ := chk_some hd6099
                            refine DR.p rfl rfl (s_indexAr (q := (rd (rw_ rs5841 x6002.toNat) 0).toNat) Try.underlying65 Try.sizeOf2 rfl rfl k6100 (z1 _)) ?_
                            refine DR.r rfl rfl (r_load rfl Try.isAgg2) (one_read (row_cell (S6086.get (k := 7) rfl) (ints_get (lt_len (rw_len a_a1_1 (lt_len rfl (inR_lt k5833))) (inR_lt k6100)))) (.of_flat0 rfl)) ?_
                            refine DR.p rfl rfl (p_move rfl) ?_
                            obtain ⟨k6102, hd6103⟩ := chk_some hd6101
                            refine DR.p rfl rfl (s_indexV (q := off p6094 + 1) Try.underlying68 Try.sizeOf2 rfl ((TVw.at (S6086.oviewT (k := 9) rfl s5850) e6096).p (ints_get (lt_len rfl (inR_lt k6102)))) rfl k6102 (o1 _ _)) ?_
                            refine DR.r rfl rfl (r_load rfl Try.isAgg2) (one_read ((TVw.at (S6086.oviewT (k := 9) rfl s5850) e6096).get _ _ (ints_get (lt_len rfl (inR_lt k6102)))) (.of_flat0 rfl)) ?_
                            refine DR.p rfl rfl (p_neq rfl rfl) ?_
                            refine DR.nil 9 [] hst (by kernel_rfl) trivial ?_
                            refine AX.cond rfl (fun c6104 => ?_) (fun c6104 => ?_)
                            · have hd6105 := bif_t c6104 hd6103
                              refine AX.exit ?_
                              refine AX.region ?_
                              obtain ⟨k6106, hd6107⟩ := chk_some hd6105
                              refine AO.p rfl (p_addE rfl rfl k6106) ?_
                              refine AO.p rfl (p_move rfl) ?_
                              refine AO.nil ?_
                              obtain rfl := some_inj hd6107
                              have S6109 := S6086.front 9 rfl
                              have S6110 := S6109.front 9 rfl
                              have S6111 := S6110.front 9 rfl
                              have S6112 := S6111.front 9 rfl
                              have S6113 := S6112.front 9 rfl
                              have S6114 := S6113.front 9 rfl
                              have S6115 := S6114.front 9 rfl
                              have S6116 := S6115.front 9 rfl
                              have S6117 := S6116.front 9 rfl
                              have S6118 := S6117.front 9 rfl
                              exact ⟨(rs5997, x6002 + 1), hk6085, rs5997, (x6002 + 1), T5998, rfl, S6118, lrs5997, tT5998, sT5998, Sub.cons' rfl rfl (Sub.cons' rfl rfl (Sub.cons' rfl rfl (Sub.cons' rfl rfl (Sub.cons' rfl rfl (Sub.cons' rfl rfl (Sub.cons' rfl rfl (Sub.cons' rfl rfl (Sub.cons' rfl rfl (Sub.cons' rfl rfl (Sub.cons' rfl rfl (Sub.cons' rfl rfl (Sub.cons' rfl rfl (Sub.cons' rfl rfl (Sub.cons' rfl rfl (Sub.cons' rfl rfl (Sub.cons' rfl rfl (Sub.nil _)))))))))))))))))⟩
                            · have hd6119 := bif_f c6104 hd6103
                              refine AX.skip ?_
                              refine AX.seq ?_
                              refine AX.seq ?_
                              refine AX.region ?_
                              refine AO.p rfl (s_fieldAddr Try.underlying26 rfl Try.sizeOf22 (by decide) rfl rfl) ?_
                              refine AO.c rfl (s_load Try.isAgg22 rfl (row_cell (S6086.get (k := 3) rfl) rfl)) ?_
                              refine AO.p rfl (p_move rfl) ?_
                              obtain ⟨k6120, hd6121⟩ := chk_some hd6119
                              refine AO.p rfl (s_indexV (q := x3219.toNat) Try.underlying22 Try.sizeOf68 rfl (B233.at (inR_pos k6120)) rfl k6120 (z1 _)) ?_
                              obtain ⟨p6122, c6123, e6124, f6125⟩ := tget tT5998 (lt_len lrs5997 (inR_lt k6120))
                              refine AO.c rfl (s_load Try.isAgg68 rfl (row_cell (S6086.oat (k := 4) rfl (B233.at (inR_pos k6120))) f6125)) ?_
                              refine AO.p rfl (p_move rfl) ?_
                              obtain ⟨k6126, hd6127⟩ := chk_some hd6121
                              refine AO.p rfl (s_indexV (q := off p6122 + x5454.toNat) Try.underlying68 Try.sizeOf2 rfl ((TVw.at (S6086.oviewT (k := 5) rfl sT5998) e6124).p (ints_get (lt_len rfl (inR_lt k6126)))) rfl k6126 (o1 _ _)) ?_
                              refine AO.c rfl (s_load Try.isAgg2 rfl ((TVw.at (S6086.oviewT (k := 5) rfl sT5998) e6124).get _ _ (ints_get (lt_len rfl (inR_lt k6126))))) ?_
                              refine AO.p rfl (p_geq rfl rfl) ?_
                              refine AO.nil ?_
                              refine AX.cond rfl (fun c6128 => ?_) (fun c6128 => ?_)
                              · have hd6129 := bif_t c6128 hd6127
                                refine AX.seq ?_
                                refine AX.region ?_
                                refine AO.p rfl (p_build2 (vs := []) (cs := [.int .i64 0, .slice none 0 0]) Try.underlying26 rfl rfl rfl Try.sizeOf2 Try.sizeOf22 Try.zeroValue26 rfl rfl rfl rfl rfl) ?_
                                obtain ⟨G6130, hHG6130, S6131⟩ := S6086.set (k := 2) (i := i109) rfl (AObj.row false ([.int .i64 0, .slice none 0 0]))
                                refine AO.s (s_storeAll (vs := [.int .i64 0, .slice none 0 0]) Try.sizeOf26 rfl rfl (ones_list rfl) (S6086.get (k := 2) rfl) rfl rfl hHG6130) ?_
                                refine AO.p rfl (p_assign rfl) ?_
                                refine AO.nil ?_
                                refine AX.ret ?_
                                obtain rfl := some_inj hd6129
                                have z6132 : _ = r6070 := hk6085
                                subst z6132
                                obtain rfl := some_inj hd6072
                                have z6133 : _ = r5814 := hk5826
                                subst z6133
                                obtain rfl := some_inj hd5816
                                have z6134 : _ = r4701 := hk4712
                                subst z6134
                                obtain ⟨rfl, z6135⟩ := Prod.mk.inj (some_inj hd4703)
                                obtain ⟨rfl, rfl⟩ := Prod.mk.inj z6135
                                have S6137 : St [] H G6130 (tseg [] :: _) := S6131.nilseg 0
                                have S6138 : St [] H G6130 (oseg none (tcells []) :: _) := S6137.nilseg 0
                                have S6139 := S6138.keep 2
                                exact ⟨.inr rfl, _, res2 rfl (rv_cell (vs := [.int .i64 0, .slice none 0 0]) rfl Try.isAgg26 Try.sizeOf26 rfl (row_cells (S6131.get (k := 2) rfl))) (rv_tmp rfl), none, 0, [], rfl, S6139, Sb.nil, rfl, TSb.nil⟩
                              · have hd6140 := bif_f c6128 hd6127
                                refine AX.skip ?_
                                refine DR.startS [false, false, false, false, false, false, false, false, false, true] mix (by kernel_rfl) (fun hst => ?_)
                                refine DR.r rfl rfl (r_loadN (vs := [.int .i64 x226, .slice p230 rs227.length c231]) rfl Try.isAgg26 Try.sizeOf26 rfl) (many_row (row_cells (S6086.get (k := 3) rfl)) (bel_cons (.of_flat0 rfl) (bel_cons (S6086.oin (k := 4) rfl B233).bel bel_nil))) ?_
                                refine DR.p rfl rfl (p_move rfl) ?_
                                refine DR.p rfl rfl (p_move rfl) ?_
                                refine DR.p rfl rfl (p_move rfl) ?_
                                obtain ⟨k6141, hd6142⟩ := chk_some hd6140
                                refine DR.p rfl rfl (s_indexV (q := off p6094 + 0) Try.underlying68 Try.sizeOf2 rfl ((TVw.at (S6086.oviewT (k := 9) rfl s5850) e6096).p (ints_get (lt_len rfl (inR_lt k6141)))) rfl k6141 (o1 _ _)) ?_
                                refine DR.r rfl rfl (r_load rfl Try.isAgg2) (one_read ((TVw.at (S6086.oviewT (k := 9) rfl s5850) e6096).get _ _ (ints_get (lt_len rfl (inR_lt k6141)))) (.of_flat0 rfl)) ?_
                                refine DR.p rfl rfl (p_move rfl) ?_
                                obtain ⟨k6143, hd6144⟩ := chk_some hd6142
                                refine DR.p rfl rfl (s_indexV (q := off p6094 + 1) Try.underlying68 Try.sizeOf2 rfl ((TVw.at (S6086.oviewT (k := 9) rfl s5850) e6096).p (ints_get (lt_len rfl (inR_lt k6143)))) rfl k6143 (o1 _ _)) ?_
                                refine DR.r rfl rfl (r_load rfl Try.isAgg2) (one_read ((TVw.at (S6086.oviewT (k := 9) rfl s5850) e6096).get _ _ (ints_get (lt_len rfl (inR_lt k6143)))) (.of_flat0 rfl)) ?_
                                have S6145 := S6086.front 5 rfl
                                have S6146 := S6145.front 5 rfl
                                obtain ⟨rs6147, h6148, hd6149⟩ := bnd_some hd6144
                                obtain ⟨_, G6155, hc6154, T6150, rfl, S6156, t6151, s6152, l6153⟩ := W_impl_Square_put fu G6087 x226 p230 c231 T5998 rs5997 tT5998 (by rw [show List.length rs5997 = rs227.length from lrs5997]; exact B233) sT5998 x3219 x5454 (rd (rw_ rs5841 x6002.toNat) 0) (rd (rw_ rs5841 x6002.toNat) 1) ((S6146).join2.onodup (k := 0) rfl) ((S6146).join2.omem (k := 0) rfl) rs6147 h6148
                                rw [show List.length rs5997 = rs227.length from lrs5997] at hc6154
                                have S6157 := St.callM (A := [oseg p230 (tcells T5998), tseg T5998]) S6146 S6156 (by simp)
                                refine DR.w rfl rfl (o_call (vs := [.agg [.int .i64 x226, .slice p230 rs227.length c231].toArray, .int .i64 x3219, .int .i64 x5454, .int .i64 (rd (rw_ rs5841 x6002.toNat) 0), .int .i64 (rd (rw_ rs5841 x6002.toNat) 1)]) rfl Try.call103 hc6154) (S6156.len) ?_
                                refine DR.nil 10 [] hst (by kernel_rfl) trivial ?_
                                refine AX.region ?_
                                obtain ⟨k6158, hd6159⟩ := chk_some hd6149
                                refine AO.p rfl (p_addE rfl rfl k6158) ?_
                                refine AO.p rfl (p_move rfl) ?_
                                refine AO.nil ?_
                                obtain rfl := some_inj hd6159
                                have S6161 := S6157.front 9 rfl
                                have S6162 := S6161.front 9 rfl
                                have S6163 := S6162.front 9 rfl
                                have S6164 := S6163.front 9 rfl
                                have S6165 := S6164.front 5 rfl
                                have S6166 := S6165.front 5 rfl
                                have S6167 := S6166.front 9 rfl
                                have S6168 := S6167.front 9 rfl
                                have S6169 := S6168.front 9 rfl
                                have S6170 := S6169.front 9 rfl
                                exact ⟨(rs6147, x6002 + 1), hk6085, rs6147, (x6002 + 1), T6150, rfl, S6170, (Eq.trans l6153 lrs5997), t6151, s6152, Sub.cons' rfl rfl (Sub.cons' rfl rfl (Sub.cons' rfl rfl (Sub.cons' rfl rfl (Sub.cons' rfl rfl (Sub.cons' rfl rfl (Sub.cons' rfl rfl (Sub.cons' rfl rfl (Sub.cons' rfl rfl (Sub.cons' rfl rfl (Sub.cons' rfl rfl (Sub.cons' rfl rfl (Sub.cons' rfl rfl (Sub.cons' rfl rfl (Sub.cons' rfl rfl (Sub.cons' rfl rfl (Sub.cons' rfl rfl (Sub.nil _)))))))))))))))))⟩
                          · have hd6171 := bif_f c6090 ho6084
                            refine AX.exit ?_
                            obtain rfl := some_inj hd6171
                            have S6172 := S6086.front 6 rfl
                            have S6173 := S6172.front 6 rfl
                            have S6174 := S6173.front 6 rfl
                            have S6175 := S6174.front 6 rfl
                            have S6176 := S6175.front 6 rfl
                            have S6177 := S6176.front 6 rfl
                            have S6178 := S6177.front 6 rfl
                            have S6179 := S6178.keep 7
                            exact ⟨rs5997, T5998, hk6085, S6179, lrs5997, tT5998, sT5998, Sub.cons' rfl rfl (Sub.cons' rfl rfl (Sub.cons' rfl rfl (Sub.cons' rfl rfl (Sub.cons' rfl rfl (Sub.cons' rfl rfl (Sub.cons' rfl rfl (Sub.cons' rfl rfl (Sub.cons' rfl rfl (Sub.cons' rfl rfl (Sub.cons' rfl rfl (Sub.cons' rfl rfl (Sub.nil _))))))))))))⟩
                      · rintro t' G6181 ⟨rs6067, T6068, rfl, S6180, lrs6067, tT6068, sT6068, hsub6182⟩
                        refine AX.sub hsub6182 ?_
                        refine AX.region ?_
                        obtain ⟨k6183, hd6184⟩ := chk_some hd6072
                        refine AO.p rfl (p_addE rfl rfl k6183) ?_
                        refine AO.p rfl (p_move rfl) ?_
                        refine AO.nil ?_
                        obtain rfl := some_inj hd6184
                        have S6186 := S6180.front 6 rfl
                        have S6187 := S6186.front 6 rfl
                        have S6188 := S6187.front 6 rfl
                        have S6189 := S6188.front 6 rfl
                        have S6190 := S6189.front 6 rfl
                        have S6191 := S6190.front 6 rfl
                        have S6192 := S6191.front 6 rfl
                        exact ⟨(rs6067, x5454 + 1), hk5826, rs6067, (x5454 + 1), T6068, rfl, S6192, lrs6067, tT6068, sT6068, Sub.cons' rfl rfl (Sub.cons' rfl rfl (Sub.cons' rfl rfl (Sub.cons' rfl rfl (Sub.cons' rfl rfl (Sub.cons' rfl rfl (Sub.cons' rfl rfl (Sub.cons' rfl rfl (Sub.cons' rfl rfl (Sub.cons' rfl rfl (Sub.cons' rfl rfl (Sub.cons' rfl rfl (Sub.nil _))))))))))))⟩
                    · have hd6194 := bif_f c5831 ho5825
                      refine AX.exit ?_
                      obtain rfl := some_inj hd6194
                      have S6195 := S5827.front 5 rfl
                      have S6196 := S6195.front 5 rfl
                      have S6197 := S6196.front 5 rfl
                      have S6198 := S6197.front 5 rfl
                      have S6199 := S6198.front 5 rfl
                      have S6200 := S6199.front 5 rfl
                      have S6201 := S6200.keep 6
                      exact ⟨rs5451, T5452, hk5826, S6201, lrs5451, tT5452, sT5452, Sub.cons' rfl rfl (Sub.cons' rfl rfl (Sub.cons' rfl rfl (Sub.cons' rfl rfl (Sub.cons' rfl rfl (Sub.cons' rfl rfl (Sub.cons' rfl rfl (Sub.nil _)))))))⟩
                · rintro t' G6203 ⟨rs5812, T5813, rfl, S6202, lrs5812, tT5813, sT5813, hsub6204⟩
                  refine AX.sub hsub6204 ?_
                  refine AX.region ?_
                  obtain ⟨k6205, hd6206⟩ := chk_some hd5816
                  refine AO.p rfl (p_addE rfl rfl k6205) ?_
                  refine AO.p rfl (p_move rfl) ?_
                  refine AO.nil ?_
                  obtain rfl := some_inj hd6206
                  have S6208 := S6202.front 5 rfl
                  have S6209 := S6208.front 5 rfl
                  have S6210 := S6209.front 5 rfl
                  have S6211 := S6210.front 5 rfl
                  have S6212 := S6211.front 5 rfl
                  have S6213 := S6212.front 5 rfl
                  exact ⟨(rs5812, x3219 + 1), hk4712, rs5812, (x3219 + 1), T5813, rfl, S6213, lrs5812, tT5813, sT5813, Sub.cons' rfl rfl (Sub.cons' rfl rfl (Sub.cons' rfl rfl (Sub.cons' rfl rfl (Sub.cons' rfl rfl (Sub.cons' rfl rfl (Sub.cons' rfl rfl (Sub.nil _)))))))⟩
              · have hd6215 := bif_f c4717 ho4711
                refine AX.exit ?_
                obtain rfl := some_inj hd6215
                have S6216 := S4713.front 5 rfl
                have S6217 := S6216.front 5 rfl
                have S6218 := S6217.front 5 rfl
                have S6219 := S6218.front 5 rfl
                have S6220 := S6219.keep 4
                exact ⟨rs3217, T3218, hk4712, S6220, lrs3217, tT3218, sT3218, Sub.cons' rfl rfl (Sub.cons' rfl rfl (Sub.nil _))⟩
          · rintro t' G6222 ⟨rs4699, T4700, rfl, S6221, lrs4699, tT4700, sT4700, hsub6223⟩
            refine AX.sub hsub6223 ?_
            refine AX.seq ?_
            refine AX.region ?_
            refine AO.c rfl (s_loadN (vs := [.int .i64 x226, .slice p230 rs227.length c231]) Try.isAgg26 Try.sizeOf26 rfl rfl (row_cells (S6221.get (k := 1) rfl))) ?_
            obtain ⟨G6224, hHG6224, S6225⟩ := S6221.set (k := 0) (i := i109) rfl (AObj.row false ([.int .i64 x226, .slice p230 rs227.length c231]))
            refine AO.s (s_storeAll (vs := [.int .i64 x226, .slice p230 rs227.length c231]) Try.sizeOf26 rfl rfl (ones_list rfl) (S6221.get (k := 0) rfl) rfl rfl hHG6224) ?_
            refine AO.p rfl (p_assign rfl) ?_
            refine AO.nil ?_
            refine AX.ret ?_
            obtain ⟨rfl, z6226⟩ := Prod.mk.inj (some_inj hd4703)
            obtain ⟨rfl, rfl⟩ := Prod.mk.inj z6226
            have S6228 := S6225.front 3 rfl
            have S6229 := S6228.front 3 rfl
            have S6230 := S6229.keep 2
            exact ⟨.inr rfl, _, res2 rfl (rv_cell (vs := [.int .i64 x226, .slice p230 rs227.length c231]) rfl Try.isAgg26 Try.sizeOf26 rfl (row_cells (S6225.get (k := 0) rfl))) (rv_tmp rfl), p230, c231, T4700, (by rw [show List.length rs4699 = rs227.length from lrs4699]), S6230, (by rw [show List.length rs4699 = rs227.length from lrs4699]; exact B233), tT4700, sT4700⟩

end Go.Proofs.Ytpaaoafgahbokaa
