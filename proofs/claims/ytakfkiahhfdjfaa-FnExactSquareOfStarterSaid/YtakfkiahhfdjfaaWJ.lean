/-
  The program computes that, printed by a program. No condition.
-/
import Derived.Test.YtakfkiahhfdjfaaDJ
import Derived.Test.YtakfkiahhfdjfaaWG
import Derived.Test.YtakfkiahhfdjfaaWI
import Derived.Test.YtakfkiahhfdjfaaProg
import Derived.KernelRfl
namespace Go.Proofs.Ytakfkiahhfdjfaa
open Go Go.RowKit Am
set_option linter.unusedVariables false
set_option linter.unusedSimpArgs false
set_option maxRecDepth 20000
set_option maxHeartbeats 4000000 in
theorem W_spec_l04Empty (fu : Nat) (H : AHeap) (a0 : Int) (r0 : List (List Int)) (hd : D_spec_l04Empty fu a0 = some r0) : ∃ v G', ACall Try.prog 96 [.int .i64 a0] H v G' ∧ ∃ (p_r0 : Option Addr) (c_r0 : Nat) (T_r0 : Tb), (v = .slice p_r0 r0.length c_r0) ∧ St [] H G' [oseg p_r0 (tcells T_r0), tseg T_r0] ∧ Sb p_r0 r0.length c_r0 1 ∧ trows T_r0 = r0 ∧ TSb T_r0 := by
  refine ACall.bodyX (args := [.int .i64 a0]) (N := 27) [(0, .int .i64 a0)] (fun v G' => ∃ (p_r0 : Option Addr) (c_r0 : Nat) (T_r0 : Tb), (v = .slice p_r0 r0.length c_r0) ∧ St [] H G' [oseg p_r0 (tcells T_r0), tseg T_r0] ∧ Sb p_r0 r0.length c_r0 1 ∧ trows T_r0 = r0 ∧ TSb T_r0) Try.func96 rfl rfl rfl rfl ?_
  unfold D_spec_l04Empty at hd
  have S0 : St [] H H [] := St.nil H
  refine AX.seq ?_
  refine AX.region ?_
  refine AO.p rfl (p_assign rfl) ?_
  refine AO.nil ?_
  refine AX.seq ?_
  refine AX.region ?_
  obtain ⟨G100, i101, hii101, hHG100, S102⟩ := S0.new (AObj.row false (tcells []))
  have S102t := S102.nilseg 1
  refine AO.c rfl (s_build0 (i := i101) Try.underlying22 Try.sizeOf34 hii101 hHG100) ?_
  refine AO.p rfl (p_assign rfl) ?_
  refine AO.nil ?_
  refine AX.seq ?_
  refine AX.seq ?_
  refine AX.region ?_
  refine AO.p rfl (p_assign rfl) ?_
  refine AO.nil ?_
  obtain ⟨r560, hl561, hd562⟩ := bnd_some hd
  refine AX.cutS (fun t' H' => ∃ (rs558 : List (List Int)) (p556 : Option Addr) (c557 : Nat) (T559 : Tb), rs558 = r560 ∧ St [] H H' [oseg p556 (tcells T559), tseg T559] ∧ trows T559 = rs558 ∧ TSb T559 ∧ Sb p556 (rs558.length) c557 1 ∧ Am.Sub [(3, .slice p556 rs558.length c557)] t') ?_ ?_
  · refine AX.block ?_
    refine AX.loopF (fun s' t' H' => ∃ (rs406 : List (List Int)) (x408 : Int) (p404 : Option Addr) (c405 : Nat) (T407 : Tb), (rs406, x408) = s' ∧ St [] H H' [oseg p404 (tcells T407), tseg T407] ∧ trows T407 = rs406 ∧ TSb T407 ∧ Sb p404 (rs406.length) c405 1 ∧ Am.Sub [(0, .int .i64 a0), (3, .slice p404 rs406.length c405), (4, .int .i64 x408)] t') hl561 ?_ ?_
    · skip
      have S563 := S102t.front 1 rfl
      have S564 := S563.front 1 rfl
      exact ⟨[], 0, (some (Addr.mk i101 0 none)), 0, [], rfl, S564, rfl, TSb.nil, (Sb.lit (n := 0) (by decide)), Sub.cons' rfl rfl (Sub.cons' rfl rfl (Sub.cons' rfl rfl (Sub.nil _)))⟩
    · rintro n565 _ t' G569 ⟨rs406, x408, p404, c405, T407, rfl, S568, tT407, sT407, Bo403, hsub570⟩ o571 ho566 hk567
      refine AX.sub hsub570 ?_
      unfold D_spec_l04Empty_s0 at ho566
      refine AX.seq ?_
      refine AX.seq ?_
      refine AX.region ?_
      refine AO.p rfl (p_move rfl) ?_
      refine AO.p rfl (p_move rfl) ?_
      refine AO.p rfl (p_lss rfl rfl) ?_
      refine AO.nil ?_
      refine AX.cond rfl (fun c572 => ?_) (fun c572 => ?_)
      · have hd573 := bif_t c572 ho566
        refine AX.skip ?_
        refine AX.seq ?_
        refine AX.block ?_
        refine AX.seq ?_
        refine AX.region ?_
        obtain ⟨G574, i575, hii575, hHG574, S576⟩ := S568.new (AObj.row false (ints []))
        refine AO.c rfl (s_build0 (i := i575) Try.underlying34 Try.sizeOf2 hii575 hHG574) ?_
        refine AO.p rfl (p_assign rfl) ?_
        refine AO.nil ?_
        refine AX.seq ?_
        refine AX.seq ?_
        refine AX.region ?_
        refine AO.p rfl (p_assign rfl) ?_
        refine AO.nil ?_
        obtain ⟨r657, hl658, hd659⟩ := bnd_some hd573
        refine AX.cutS (fun t' H' => ∃ (xs656 : List Int) (p654 : Option Addr) (c655 : Nat), xs656 = r657 ∧ St [] H H' [oseg p404 (tcells T407), tseg T407, oseg p654 (ints xs656)] ∧ Sb p654 (xs656.length) c655 1 ∧ Am.Sub [(0, .int .i64 a0), (3, .slice p404 rs406.length c405), (4, .int .i64 x408), (5, .slice p654 xs656.length c655)] t') ?_ ?_
        · refine AX.block ?_
          refine AX.loopF (fun s' t' H' => ∃ (xs630 : List Int) (x631 : Int) (p628 : Option Addr) (c629 : Nat), (xs630, x631) = s' ∧ St [] H H' [oseg p404 (tcells T407), tseg T407, oseg p628 (ints xs630)] ∧ Sb p628 (xs630.length) c629 1 ∧ Am.Sub [(0, .int .i64 a0), (3, .slice p404 rs406.length c405), (4, .int .i64 x408), (5, .slice p628 xs630.length c629), (6, .int .i64 x631)] t') hl658 ?_ ?_
          · skip
            have S660 := S576.front 0 rfl
            have S661 := S660.front 2 rfl
            have S662 := S661.front 2 rfl
            exact ⟨[], 0, (some (Addr.mk i575 0 none)), 0, rfl, S662, (Sb.lit (n := 0) (by decide)), Sub.cons' rfl rfl (Sub.cons' rfl rfl (Sub.cons' rfl rfl (Sub.cons' rfl rfl (Sub.cons' rfl rfl (Sub.nil _)))))⟩
          · rintro n663 _ t' G667 ⟨xs630, x631, p628, c629, rfl, S666, Bo627, hsub668⟩ o669 ho664 hk665
            refine AX.sub hsub668 ?_
            unfold D_spec_l04Empty_s1 at ho664
            refine AX.seq ?_
            refine AX.seq ?_
            refine AX.region ?_
            refine AO.p rfl (p_move rfl) ?_
            refine AO.p rfl (p_move rfl) ?_
            refine AO.p rfl (p_lss rfl rfl) ?_
            refine AO.nil ?_
            refine AX.cond rfl (fun c670 => ?_) (fun c670 => ?_)
            · have hd671 := bif_t c670 ho664
              refine AX.skip ?_
              refine AX.seq ?_
              refine AX.block ?_
              refine AX.region ?_
              refine AO.p rfl (p_move rfl) ?_
              obtain ⟨G672, i673, hii673, hHG672, S674⟩ := S666.new (AObj.row false (ints [(-1)]))
              refine AO.c rfl (s_buildInts (i := i673) (vs := [(0, .int .i64 (-1))]) (xs := [(-1)]) Try.underlying34 Try.sizeOf2 Try.zeroValue2 rfl rfl (by decide) rfl rfl hii673 hHG672) ?_
              obtain ⟨k676, hd677⟩ := chk_some hd671
              obtain ⟨p678, c679, G680, haG680, S681, Bp678⟩ := S674.app (k := 3) rfl Bo627 (ints [(-1)]) 1 (ints_len1 rfl)
              have S682 := S681.cellsEq (k := 3) (us' := ints (xs630 ++ [(-1)])) (ints_app _ _) rfl
              have BS682 : Sb p678 ((xs630 ++ [(-1)]).length) c679 1 := (show xs630.length + 1 = (xs630 ++ [(-1)]).length from len_app (a := xs630) (b := [(-1)]) rfl rfl) ▸ Bp678
              have S683 := S682.drop 0 rfl
              refine AO.c rfl (s_app (by_ := 8) (us := ints xs630) (vs := ints [(-1)]) Try.underlying34 Try.underlying34 Try.typeInfo2 Try.sizeOf2 Try.zeroValue2 rfl rfl rfl rfl rfl rfl rfl (S674.buf (k := 3) rfl Bo627 (ints_len1 rfl)) (S674.oview (k := 0) rfl (Sb.lit (n := 1) (by decide)) (ints_len1 rfl)) (ints_len1 rfl) ints_one k676 haG680 (show xs630.length + 1 = (xs630 ++ [(-1)]).length from len_app (a := xs630) (b := [(-1)]) rfl rfl)) ?_
              refine AO.p rfl (p_assign rfl) ?_
              refine AO.nil ?_
              refine AX.region ?_
              refine AO.p rfl (p_move rfl) ?_
              obtain ⟨k684, hd685⟩ := chk_some hd677
              refine AO.p rfl (p_addE rfl rfl k684) ?_
              refine AO.p rfl (p_assign rfl) ?_
              refine AO.nil ?_
              obtain rfl := some_inj hd685
              have S687 := S683.front 2 rfl
              have S688 := S687.front 2 rfl
              have S689 := S688.front 2 rfl
              exact ⟨((xs630 ++ [(-1)]), x631 + 1), hk665, (xs630 ++ [(-1)]), (x631 + 1), p678, c679, rfl, S689, BS682, Sub.cons' rfl rfl (Sub.cons' rfl rfl (Sub.cons' rfl rfl (Sub.cons' rfl rfl (Sub.cons' rfl rfl (Sub.nil _)))))⟩
            · have hd690 := bif_f c670 ho664
              refine AX.exit ?_
              obtain rfl := some_inj hd690
              have S691 := S666.front 2 rfl
              have S692 := S691.front 2 rfl
              have S693 := S692.front 2 rfl
              exact ⟨xs630, p628, c629, hk665, S693, Bo627, Sub.cons' rfl rfl (Sub.cons' rfl rfl (Sub.cons' rfl rfl (Sub.cons' rfl rfl (Sub.nil _))))⟩
        · rintro t' G695 ⟨xs656, p654, c655, rfl, S694, Bo653, hsub696⟩
          refine ⟨_, hsub696, ?_⟩
          refine AX.region ?_
          refine AO.p rfl (p_move rfl) ?_
          refine AO.p rfl (p_move rfl) ?_
          obtain ⟨G697, i698, hii698, hHG697, S699⟩ := S694.new (AObj.row false (tcells [(p654, c655, xs656)]))
          have S701 := (S699.front 3 rfl).tone p654 c655 xs656 rfl
          refine AO.c rfl (s_buildT1 (i := i698) (X := [(p654, c655, xs656)]) (n := xs656.length) rfl Try.underlying22 Try.sizeOf34 Try.zeroValue34 rfl rfl hii698 hHG697) ?_
          obtain ⟨k702, hd703⟩ := chk_some hd659
          obtain ⟨p704, c705, G706, haG706, S707, Bp704⟩ := S701.app (k := 2) rfl Bo403 (tcells [(p654, c655, xs656)]) 1 (tc_len1 rfl rfl)
          have S708 := S707.cellsEq (k := 2) (us' := tcells (T407 ++ [(p654, c655, xs656)])) (tcells_app _ _).symm rfl
          have BS708 : Sb p704 ((rs406 ++ [xs656]).length) c705 1 := (show rs406.length + 1 = (rs406 ++ [xs656]).length from len_app (a := rs406) (b := [xs656]) rfl rfl) ▸ Bp704
          have S709 := S708.front 0 rfl
          have S710 := (S709.front 3 rfl).tmerge
          have S711 := S710.drop 1 rfl
          refine AO.c rfl (s_app (by_ := 24) (us := tcells T407) (vs := tcells [(p654, c655, xs656)]) Try.underlying22 Try.underlying22 Try.typeInfo34 Try.sizeOf34 Try.zeroValue34 rfl rfl rfl rfl rfl rfl rfl (S701.buf (k := 2) rfl Bo403 (tc_len1 tT407 rfl)) (S701.oview (k := 1) rfl (Sb.lit (n := 1) (by decide)) (tc_len1 rfl rfl)) (tc_len1 rfl rfl) tcells_one k702 haG706 (show rs406.length + 1 = (rs406 ++ [xs656]).length from len_app (a := rs406) (b := [xs656]) rfl rfl)) ?_
          refine AO.p rfl (p_assign rfl) ?_
          refine AO.nil ?_
          refine AX.region ?_
          refine AO.p rfl (p_move rfl) ?_
          obtain ⟨k712, hd713⟩ := chk_some hd703
          refine AO.p rfl (p_addE rfl rfl k712) ?_
          refine AO.p rfl (p_assign rfl) ?_
          refine AO.nil ?_
          obtain rfl := some_inj hd713
          have S715 := S711.front 0 rfl
          have S716 := S715.front 1 rfl
          exact ⟨((rs406 ++ [xs656]), x408 + 1), hk567, (rs406 ++ [xs656]), (x408 + 1), p704, c705, (T407 ++ [(p654, c655, xs656)]), rfl, S716, (trows_apps tT407 rfl), (TSb.app sT407 (TSb.one (sb_len rfl Bo653))), BS708, Sub.cons' rfl rfl (Sub.cons' rfl rfl (Sub.cons' rfl rfl (Sub.nil _)))⟩
      · have hd717 := bif_f c572 ho566
        refine AX.exit ?_
        obtain rfl := some_inj hd717
        have S718 := S568.front 1 rfl
        have S719 := S718.front 1 rfl
        exact ⟨rs406, p404, c405, T407, hk567, S719, tT407, sT407, Bo403, Sub.cons' rfl rfl (Sub.nil _)⟩
  · rintro t' G721 ⟨rs558, p556, c557, T559, rfl, S720, tT559, sT559, Bo555, hsub722⟩
    refine ⟨_, hsub722, ?_⟩
    refine AX.seq ?_
    refine AX.region ?_
    refine AO.p rfl (p_move rfl) ?_
    refine AO.p rfl (p_assign rfl) ?_
    refine AO.nil ?_
    refine AX.ret ?_
    obtain rfl := some_inj hd562
    have S723 := S720.front 1 rfl
    have S724 := S723.front 1 rfl
    exact ⟨.inr rfl, _, res1 rfl (rv_tmp rfl), p556, c557, T559, rfl, S724, Bo555, tT559, sT559⟩

set_option maxHeartbeats 4000000 in
theorem W_spec_SquareOfStarter (fu : Nat) (H : AHeap) (a0 : Int) (p_a1 : Option Addr) (c_a1 : Nat) (T_a1 : Tb) (a1 : List (List Int)) (t_a1 : trows T_a1 = a1) (v_a1 : Vw H p_a1 a1.length c_a1 (tcells T_a1)) (w_a1 : TVw H T_a1) (p_a2 : Option Addr) (c_a2 : Nat) (a2 : List Int) (v_a2 : Vw H p_a2 a2.length c_a2 (ints a2)) (r0 : Int) (r1 : List (List Int)) (r2 : Int) (hd : D_spec_SquareOfStarter fu a0 a1 a2 = some (r0, r1, r2)) : ∃ v G', ACall Try.prog 49 [.int .i64 a0, .slice p_a1 a1.length c_a1, .slice p_a2 a2.length c_a2] H v G' ∧ ∃ (p_r1 : Option Addr) (c_r1 : Nat) (T_r1 : Tb), (v = .tuple #[.agg [.int .i64 r0, .slice p_r1 r1.length c_r1].toArray, .int .i64 r2]) ∧ St [] H G' [oseg p_r1 (tcells T_r1), tseg T_r1] ∧ Sb p_r1 r1.length c_r1 1 ∧ trows T_r1 = r1 ∧ TSb T_r1 := by
  refine ACall.bodyX (args := [.int .i64 a0, .slice p_a1 a1.length c_a1, .slice p_a2 a2.length c_a2]) (N := 101) [(0, .int .i64 a0), (1, .slice p_a1 a1.length c_a1), (2, .slice p_a2 a2.length c_a2)] (fun v G' => ∃ (p_r1 : Option Addr) (c_r1 : Nat) (T_r1 : Tb), (v = .tuple #[.agg [.int .i64 r0, .slice p_r1 r1.length c_r1].toArray, .int .i64 r2]) ∧ St [] H G' [oseg p_r1 (tcells T_r1), tseg T_r1] ∧ Sb p_r1 r1.length c_r1 1 ∧ trows T_r1 = r1 ∧ TSb T_r1) Try.func49 rfl rfl rfl rfl ?_
  unfold D_spec_SquareOfStarter at hd
  have S0 : St [] H H [] := St.nil H
  refine AX.seq ?_
  refine AX.region ?_
  obtain ⟨G100, i101, hii101, hHG100, S102⟩ := S0.new (AObj.row false ([.int .i64 0, .slice none 0 0]))
  refine AO.c rfl (s_alloc (i := i101) (cs := [.int .i64 0, .slice none 0 0]) Try.zeroValue53 rfl rfl hii101 hHG100) ?_
  refine AO.p rfl (p_assign rfl) ?_
  refine AO.nil ?_
  refine AX.seq ?_
  refine AX.region ?_
  refine AO.p rfl (p_move rfl) ?_
  refine AO.p rfl (p_move rfl) ?_
  refine AO.p rfl (p_move rfl) ?_
  obtain ⟨⟨b104, x105⟩, h106, hd107⟩ := bnd_some hd
  refine AO.c rfl (o_call (vs := [.int .i64 a0, .slice p_a1 a1.length c_a1, .slice p_a2 a2.length c_a2]) rfl Try.call30 (W_spec_IsAdder fu G100 a0 p_a1 c_a1 T_a1 a1 t_a1 (S102.view v_a1) (S102.tview w_a1) p_a2 c_a2 a2 (S102.view v_a2) b104 x105 h106)) ?_
  refine AO.p rfl (p_move rfl) ?_
  refine AO.p rfl (p_extract rfl rfl) ?_
  refine AO.p rfl (p_extract rfl rfl) ?_
  refine AO.p rfl (p_assign rfl) ?_
  refine AO.p rfl (p_assign rfl) ?_
  refine AO.nil ?_
  refine AX.seq ?_
  refine AX.cut (fun t' H' => G100 = H' ∧ Am.Sub [(0, .int .i64 a0), (1, .slice p_a1 a1.length c_a1), (2, .slice p_a2 a2.length c_a2), (6, .pointer (some ⟨i101, 0, none⟩)), (9, .int .i64 x105), (28, .bool ((decide (x105 = 0)) && (!b104)))] t') ?_ ?_
  · skip
    refine AX.region ?_
    refine AO.p rfl (p_move rfl) ?_
    refine AO.p rfl (p_eql rfl rfl) ?_
    refine AO.p rfl (p_move rfl) ?_
    refine AO.cases (d := 25) rfl (fun c112 => ?_) (fun c112 => ?_)
    · skip
      refine AO.gp rfl rfl rfl (p_move rfl) ?_
      refine AO.gp rfl rfl rfl (p_not rfl) ?_
      refine AO.p rfl (p_pickT rfl rfl) ?_
      refine AO.nil ?_
      exact ⟨rfl, Sub.cons' rfl rfl (Sub.cons' rfl rfl (Sub.cons' rfl rfl (Sub.cons' rfl rfl (Sub.cons' rfl rfl (Sub.cons' rfl (bool_eq (by simp only [c112, Bool.true_and, Bool.false_and, Bool.and_true, Bool.and_false, Bool.true_or, Bool.false_or, Bool.or_true, Bool.or_false, Bool.not_true, Bool.not_false, cond_true, cond_false])) (Sub.nil _))))))⟩
    · skip
      refine AO.gn rfl rfl rfl ?_
      refine AO.gn rfl rfl rfl ?_
      refine AO.p rfl (p_pickF rfl rfl) ?_
      refine AO.nil ?_
      exact ⟨rfl, Sub.cons' rfl rfl (Sub.cons' rfl rfl (Sub.cons' rfl rfl (Sub.cons' rfl rfl (Sub.cons' rfl rfl (Sub.cons' rfl (bool_eq (by simp only [c112, Bool.true_and, Bool.false_and, Bool.and_true, Bool.and_false, Bool.true_or, Bool.false_or, Bool.or_true, Bool.or_false, Bool.not_true, Bool.not_false, cond_true, cond_false])) (Sub.nil _))))))⟩
  · rintro t' _ ⟨rfl, hsub113⟩
    refine AX.sub hsub113 ?_
    obtain ⟨r119, hb120, hd121⟩ := bnd_some hd107
    refine AX.cutS (fun t' H' => ∃ (x118 : Int), x118 = r119 ∧ St [] H H' [[(i101, AObj.row false ([.int .i64 0, .slice none 0 0]))]] ∧ Am.Sub [(0, .int .i64 a0), (1, .slice p_a1 a1.length c_a1), (2, .slice p_a2 a2.length c_a2), (6, .pointer (some ⟨i101, 0, none⟩)), (9, .int .i64 x118)] t') ?_ ?_
    · skip
      refine AX.cond rfl (fun c122 => ?_) (fun c122 => ?_)
      · have hd123 := bif_t c122 hb120
        refine AX.region ?_
        refine AO.p rfl (p_assign rfl) ?_
        refine AO.nil ?_
        have S124 := S102.front 0 rfl
        exact ⟨5, (some_inj hd123), S124, Sub.cons' rfl rfl (Sub.cons' rfl rfl (Sub.cons' rfl rfl (Sub.cons' rfl rfl (Sub.cons' rfl rfl (Sub.nil _)))))⟩
      · have hd125 := bif_f c122 hb120
        refine AX.skip ?_
        have S126 := S102.front 0 rfl
        exact ⟨x105, (some_inj hd125), S126, Sub.cons' rfl rfl (Sub.cons' rfl rfl (Sub.cons' rfl rfl (Sub.cons' rfl rfl (Sub.cons' rfl rfl (Sub.nil _)))))⟩
    · rintro t' G128 ⟨x118, rfl, S127, hsub129⟩
      refine ⟨_, hsub129, ?_⟩
      refine AX.seq ?_
      refine AX.seq ?_
      refine AX.region ?_
      refine AO.p rfl (p_move rfl) ?_
      refine AO.p rfl (p_neq rfl rfl) ?_
      refine AO.nil ?_
      refine AX.cond rfl (fun c130 => ?_) (fun c130 => ?_)
      · have hd131 := bif_t c130 hd121
        refine AX.seq ?_
        refine AX.region ?_
        refine AO.p rfl (p_build2 (vs := []) (cs := [.int .i64 0, .slice none 0 0]) Try.underlying53 rfl rfl rfl Try.sizeOf2 Try.sizeOf22 Try.zeroValue53 rfl rfl rfl rfl rfl) ?_
        refine AO.p rfl (p_move rfl) ?_
        obtain ⟨G132, hHG132, S133⟩ := S127.set (k := 0) (i := i101) rfl (AObj.row false ([.int .i64 0, .slice none 0 0]))
        refine AO.s (s_storeAll (vs := [.int .i64 0, .slice none 0 0]) Try.sizeOf53 rfl rfl (ones_list rfl) (S127.get (k := 0) rfl) rfl rfl hHG132) ?_
        refine AO.p rfl (p_assign rfl) ?_
        refine AO.nil ?_
        refine AX.ret ?_
        obtain ⟨rfl, z134⟩ := Prod.mk.inj (some_inj hd131)
        obtain ⟨rfl, rfl⟩ := Prod.mk.inj z134
        have S136 : St [] H G132 (tseg [] :: _) := S133.nilseg 0
        have S137 : St [] H G132 (oseg none (tcells []) :: _) := S136.nilseg 0
        have S138 := S137.keep 2
        exact ⟨.inr rfl, _, res2 rfl (rv_cell (vs := [.int .i64 0, .slice none 0 0]) rfl Try.isAgg53 Try.sizeOf53 rfl (row_cells (S133.get (k := 0) rfl))) (rv_tmp rfl), none, 0, [], rfl, S138, Sb.nil, rfl, TSb.nil⟩
      · have hd139 := bif_f c130 hd121
        refine AX.skip ?_
        refine AX.seq ?_
        refine AX.region ?_
        refine AO.p rfl (p_move rfl) ?_
        refine AO.p rfl (p_move rfl) ?_
        obtain ⟨rs140, h141, hd142⟩ := bnd_some hd139
        obtain ⟨_, G151, hc150, p143, c144, T147, rfl, S152, B146, t148, s149⟩ := W_spec_l04Empty fu G128 a0 rs140 h141
        have S153 := S127.call S152
        refine AO.c rfl (o_call (vs := [.int .i64 a0]) rfl Try.call96 hc150) ?_
        refine AO.p rfl (p_build2 (vs := [(0, .int .i64 a0), (1, .slice p143 rs140.length c144)]) (cs := [.int .i64 a0, .slice p143 rs140.length c144]) Try.underlying53 rfl rfl rfl Try.sizeOf2 Try.sizeOf22 Try.zeroValue53 rfl rfl rfl rfl rfl) ?_
        obtain ⟨G154, i155, hii155, hHG154, S156⟩ := S153.new (AObj.row false ([.int .i64 0, .slice none 0 0]))
        refine AO.c rfl (s_alloc (i := i155) (cs := [.int .i64 0, .slice none 0 0]) Try.zeroValue53 rfl rfl hii155 hHG154) ?_
        obtain ⟨G158, hHG158, S159⟩ := S156.set (k := 0) (i := i155) rfl (AObj.row false ([.int .i64 a0, .slice p143 rs140.length c144]))
        refine AO.s (s_storeAll (vs := [.int .i64 a0, .slice p143 rs140.length c144]) Try.sizeOf53 rfl rfl (ones_list rfl) (S156.get (k := 0) rfl) rfl rfl hHG158) ?_
        refine AO.nil ?_
        refine AX.seq ?_
        refine AX.seq ?_
        refine AX.region ?_
        refine AO.p rfl (p_assign rfl) ?_
        refine AO.nil ?_
        obtain ⟨r972, hl973, hd974⟩ := bnd_some hd142
        refine AX.cutS (fun t' H' => ∃ (rs970 : List (List Int)) (T971 : Tb), rs970 = r972 ∧ St [] H H' [[(i101, AObj.row false ([.int .i64 0, .slice none 0 0]))], [(i155, AObj.row false ([.int .i64 a0, .slice p143 rs140.length c144]))], oseg p143 (tcells T971), tseg T971] ∧ rs970.length = rs140.length ∧ trows T971 = rs970 ∧ TSb T971 ∧ Am.Sub [(6, .pointer (some ⟨i101, 0, none⟩)), (10, .pointer (some ⟨i155, 0, none⟩))] t') ?_ ?_
        · refine AX.block ?_
          refine AX.loopF (fun s' t' H' => ∃ (rs700 : List (List Int)) (x702 : Int) (T701 : Tb), (rs700, x702) = s' ∧ St [] H H' [[(i101, AObj.row false ([.int .i64 0, .slice none 0 0]))], [(i155, AObj.row false ([.int .i64 a0, .slice p143 rs140.length c144]))], oseg p143 (tcells T701), tseg T701] ∧ rs700.length = rs140.length ∧ trows T701 = rs700 ∧ TSb T701 ∧ Am.Sub [(0, .int .i64 a0), (1, .slice p_a1 a1.length c_a1), (2, .slice p_a2 a2.length c_a2), (6, .pointer (some ⟨i101, 0, none⟩)), (10, .pointer (some ⟨i155, 0, none⟩)), (11, .int .i64 x702)] t') hl973 ?_ ?_
          · skip
            have S975 := S159.front 2 rfl
            have S976 := S975.front 2 rfl
            have S977 := S976.front 2 rfl
            have S978 := S977.front 3 rfl
            exact ⟨rs140, 0, T147, rfl, S978, rfl, t148, s149, Sub.cons' rfl rfl (Sub.cons' rfl rfl (Sub.cons' rfl rfl (Sub.cons' rfl rfl (Sub.cons' rfl rfl (Sub.cons' rfl rfl (Sub.nil _))))))⟩
          · rintro n979 _ t' G983 ⟨rs700, x702, T701, rfl, S982, lrs700, tT701, sT701, hsub984⟩ o985 ho980 hk981
            refine AX.sub hsub984 ?_
            unfold D_spec_SquareOfStarter_s0 at ho980
            refine AX.seq ?_
            refine AX.seq ?_
            refine AX.region ?_
            refine AO.p rfl (p_move rfl) ?_
            refine AO.p rfl (p_move rfl) ?_
            refine AO.p rfl (p_lss rfl rfl) ?_
            refine AO.nil ?_
            refine AX.cond rfl (fun c986 => ?_) (fun c986 => ?_)
            · have hd987 := bif_t c986 ho980
              refine AX.skip ?_
              refine AX.seq ?_
              refine AX.block ?_
              refine AX.seq ?_
              refine AX.region ?_
              refine AO.p rfl (s_fieldAddr Try.underlying53 rfl Try.sizeOf22 (by decide) rfl rfl) ?_
              refine AO.c rfl (s_load Try.isAgg22 rfl (row_cell (S982.get (k := 1) rfl) rfl)) ?_
              refine AO.p rfl (p_move rfl) ?_
              obtain ⟨k988, hd989⟩ := chk_some hd987
              refine AO.p rfl (s_indexV (q := x702.toNat) Try.underlying22 Try.sizeOf34 rfl (B146.at (inR_pos k988)) rfl k988 (z1 _)) ?_
              obtain ⟨p990, c991, e992, f993⟩ := tget tT701 (lt_len lrs700 (inR_lt k988))
              refine AO.c rfl (s_load Try.isAgg34 rfl (row_cell (S982.oat (k := 2) rfl (B146.at (inR_pos k988))) f993)) ?_
              refine AO.p rfl (p_assign rfl) ?_
              refine AO.nil ?_
              refine AX.seq ?_
              refine AX.region ?_
              refine AO.p rfl (p_move rfl) ?_
              refine AO.p rfl (p_move rfl) ?_
              refine AO.p rfl (p_move rfl) ?_
              obtain ⟨k994, hd995⟩ := chk_some hd989
              refine AO.p rfl (p_mulE rfl rfl k994) ?_
              refine AO.p rfl (p_move rfl) ?_
              obtain ⟨k996, hd997⟩ := chk_some hd995
              refine AO.p rfl (p_addE rfl rfl k996) ?_
              obtain ⟨k998, hd999⟩ := chk_some hd997
              refine AO.p rfl (s_indexV (q := off p990 + x702.toNat) Try.underlying34 Try.sizeOf2 rfl ((TVw.at (S982.oviewT (k := 3) rfl sT701) e992).p (ints_get (lt_len rfl (inR_lt k998)))) rfl k998 (o1 _ _)) ?_
              obtain ⟨G1000, hHG1000, S1001⟩ := S982.tset (k := 3) rfl e992 ((TSb.at sT701 e992).at (inR_pos k998)) ((rw_ rs700 x702.toNat).set x702.toNat (14 * x702 + a0))
              have S1002 := S1001.hdr (k := 2) (tcells_set (xs' := ((rw_ rs700 x702.toNat).set x702.toNat (14 * x702 + a0))) e992 (len_set rfl)).symm rfl
              refine AO.s (s_storeO (o := off p990 + x702.toNat) (q := x702.toNat) (off0 ((TSb.at sT701 e992).at (inR_pos k998)) _) Try.sizeOf2 rfl rfl rfl (S982.tat (k := 3) rfl e992 ((TSb.at sT701 e992).at (inR_pos k998))) (lt_len (ints_length _) (inR_lt k998)) ((congrArg (fun l => List.set _ _ (AObj.row false l)) (ints_set _ _ _)).trans hHG1000)) ?_
              refine AO.nil ?_
              refine AX.seq ?_
              refine AX.region ?_
              refine AO.p rfl (p_assign rfl) ?_
              refine AO.nil ?_
              obtain ⟨r1172, hl1173, hd1174⟩ := bnd_some hd999
              refine AX.cutS (fun t' H' => ∃ (rs1170 : List (List Int)) (T1171 : Tb), rs1170 = r1172 ∧ St [] H H' [[(i101, AObj.row false ([.int .i64 0, .slice none 0 0]))], [(i155, AObj.row false ([.int .i64 a0, .slice p143 rs140.length c144]))], oseg p143 (tcells T1171), tseg T1171] ∧ rs1170.length = rs140.length ∧ trows T1171 = rs1170 ∧ TSb T1171 ∧ Am.Sub [(0, .int .i64 a0), (1, .slice p_a1 a1.length c_a1), (2, .slice p_a2 a2.length c_a2), (6, .pointer (some ⟨i101, 0, none⟩)), (10, .pointer (some ⟨i155, 0, none⟩)), (11, .int .i64 x702)] t') ?_ ?_
              · refine AX.block ?_
                refine AX.loopF (fun s' t' H' => ∃ (rs1114 : List (List Int)) (x1117 : Int) (T1115 : Tb), (rs1114, x1117) = s' ∧ St [] H H' [[(i101, AObj.row false ([.int .i64 0, .slice none 0 0]))], [(i155, AObj.row false ([.int .i64 a0, .slice p143 rs140.length c144]))], oseg p143 (tcells T1115), tseg T1115] ∧ rs1114.length = rs140.length ∧ trows T1115 = rs1114 ∧ TSb T1115 ∧ T1115[x702.toNat]? = some (p990, c991, (rw_ rs1114 x702.toNat)) ∧ (rw_ rs1114 x702.toNat).length = (rw_ rs700 x702.toNat).length ∧ Am.Sub [(0, .int .i64 a0), (1, .slice p_a1 a1.length c_a1), (2, .slice p_a2 a2.length c_a2), (6, .pointer (some ⟨i101, 0, none⟩)), (10, .pointer (some ⟨i155, 0, none⟩)), (11, .int .i64 x702), (12, .slice p990 ((rw_ rs700 x702.toNat).length) c991), (13, .int .i64 x1117)] t') hl1173 ?_ ?_
                · skip
                  have S1175 := S1002.front 3 rfl
                  have S1176 := S1175.front 3 rfl
                  have S1177 := S1176.front 3 rfl
                  have S1178 := S1177.front 3 rfl
                  exact ⟨(rs700.set x702.toNat ((rw_ rs700 x702.toNat).set x702.toNat (14 * x702 + a0))), 0, (T701.set x702.toNat (p990, c991, ((rw_ rs700 x702.toNat).set x702.toNat (14 * x702 + a0)))), rfl, S1178, (len_set lrs700), (trows_set' tT701), (TSb.set sT701 e992 (len_set rfl)), (t_rw (trows_set' tT701) (tset_same e992)), (t_rwl (p := p990) (c := c991) (trows_set' tT701) (tset_same e992) (len_set rfl)), Sub.cons' rfl rfl (Sub.cons' rfl rfl (Sub.cons' rfl rfl (Sub.cons' rfl rfl (Sub.cons' rfl rfl (Sub.cons' rfl rfl (Sub.cons' rfl rfl (Sub.cons' rfl rfl (Sub.nil _))))))))⟩
                · rintro n1179 _ t' G1183 ⟨rs1114, x1117, T1115, rfl, S1182, lrs1114, tT1115, sT1115, e1116, le1116, hsub1184⟩ o1185 ho1180 hk1181
                  refine AX.sub hsub1184 ?_
                  unfold D_spec_SquareOfStarter_s1 at ho1180
                  refine AX.seq ?_
                  refine AX.seq ?_
                  refine AX.region ?_
                  refine AO.p rfl (p_move rfl) ?_
                  refine AO.p rfl (p_move rfl) ?_
                  refine AO.p rfl (p_len_slice rfl Try.underlying22) ?_
                  refine AO.p rfl (p_lss rfl rfl) ?_
                  refine AO.nil ?_
                  refine AX.cond rfl (fun c1186 => ?_) (fun c1186 => ?_)
                  · have hd1187 := bif_t c1186 ho1180
                    refine AX.skip ?_
                    refine AX.seq ?_
                    refine AX.block ?_
                    refine AX.seq ?_
                    refine DR.startS [false, false, false, false, false, false, false, false, false, false, false, false, false, false, false, false, false, false, false, false, false, false] mix (by kernel_rfl) (fun hst => ?_)
                    refine DR.p rfl rfl (p_move rfl) ?_
                    refine DR.p rfl rfl (p_move rfl) ?_
                    obtain ⟨k1188, hd1189⟩ := chk_some hd1187
                    obtain ⟨p1190, c1191, e1192, f1193⟩ := tget t_a1 (lt_len rfl (inR_lt k1188))
                    refine DR.p rfl rfl (s_indexV (q := off p_a1 + x1117.toNat) Try.underlying22 Try.sizeOf34 rfl ((S1182.view v_a1).p f1193) rfl k1188 (o1 _ _)) ?_
                    refine DR.r rfl rfl (r_load rfl Try.isAgg34) (one_read ((S1182.view v_a1).get _ _ f1193) (TVw.at (S1182.tview w_a1) e1192).inn.bel) ?_
                    obtain ⟨k1194, hd1195⟩ := chk_some hd1189
                    refine DR.p rfl rfl (s_indexV (q := off p1190 + 0) Try.underlying34 Try.sizeOf2 rfl ((TVw.at (S1182.tview w_a1) e1192).p (ints_get (lt_len rfl (inR_lt k1194)))) rfl k1194 (o1 _ _)) ?_
                    refine DR.r rfl rfl (r_load rfl Try.isAgg2) (one_read ((TVw.at (S1182.tview w_a1) e1192).get _ _ (ints_get (lt_len rfl (inR_lt k1194)))) (.of_flat0 rfl)) ?_
                    refine DR.p rfl rfl (p_move rfl) ?_
                    obtain ⟨k1196, hd1197⟩ := chk_some hd1195
                    refine DR.p rfl rfl (p_addE rfl rfl k1196) ?_
                    refine DR.p rfl rfl (p_move rfl) ?_
                    obtain ⟨k1198, hd1199⟩ := chk_some hd1197
                    refine DR.p rfl rfl (p_remE rfl rfl k1198) ?_
                    refine DR.p rfl rfl (p_move rfl) ?_
                    refine DR.p rfl rfl (p_move rfl) ?_
                    obtain ⟨k1200, hd1201⟩ := chk_some hd1199
                    obtain ⟨p1202, c1203, e1204, f1205⟩ := tget t_a1 (lt_len rfl (inR_lt k1200))
                    refine DR.p rfl rfl (s_indexV (q := off p_a1 + x1117.toNat) Try.underlying22 Try.sizeOf34 rfl ((S1182.view v_a1).p f1205) rfl k1200 (o1 _ _)) ?_
                    refine DR.r rfl rfl (r_load rfl Try.isAgg34) (one_read ((S1182.view v_a1).get _ _ f1205) (TVw.at (S1182.tview w_a1) e1204).inn.bel) ?_
                    obtain ⟨k1206, hd1207⟩ := chk_some hd1201
                    refine DR.p rfl rfl (s_indexV (q := off p1202 + 1) Try.underlying34 Try.sizeOf2 rfl ((TVw.at (S1182.tview w_a1) e1204).p (ints_get (lt_len rfl (inR_lt k1206)))) rfl k1206 (o1 _ _)) ?_
                    refine DR.r rfl rfl (r_load rfl Try.isAgg2) (one_read ((TVw.at (S1182.tview w_a1) e1204).get _ _ (ints_get (lt_len rfl (inR_lt k1206)))) (.of_flat0 rfl)) ?_
                    refine DR.p rfl rfl (p_move rfl) ?_
                    obtain ⟨k1208, hd1209⟩ := chk_some hd1207
                    refine DR.p rfl rfl (p_addE rfl rfl k1208) ?_
                    refine DR.p rfl rfl (p_move rfl) ?_
                    obtain ⟨k1210, hd1211⟩ := chk_some hd1209
                    refine DR.p rfl rfl (p_remE rfl rfl k1210) ?_
                    refine DR.p rfl rfl (p_assign rfl) ?_
                    refine DR.p rfl rfl (p_assign rfl) ?_
                    refine DR.nil 22 [] hst (by kernel_rfl) trivial ?_
                    refine AX.region ?_
                    refine AO.p rfl (p_move rfl) ?_
                    refine AO.p rfl (p_move rfl) ?_
                    refine AO.p rfl (p_move rfl) ?_
                    obtain ⟨k1212, hd1213⟩ := chk_some hd1211
                    refine AO.p rfl (p_addE rfl rfl k1212) ?_
                    refine AO.p rfl (p_move rfl) ?_
                    refine AO.p rfl (p_move rfl) ?_
                    obtain ⟨k1214, hd1215⟩ := chk_some hd1213
                    refine AO.p rfl (s_indexV (q := off p_a2 + x1117.toNat) Try.underlying34 Try.sizeOf2 rfl ((S1182.view v_a2).p (ints_get (lt_len rfl (inR_lt k1214)))) rfl k1214 (o1 _ _)) ?_
                    refine AO.c rfl (s_load Try.isAgg2 rfl ((S1182.view v_a2).get _ _ (ints_get (lt_len rfl (inR_lt k1214))))) ?_
                    obtain ⟨k1216, hd1217⟩ := chk_some hd1215
                    refine AO.p rfl (p_subE rfl rfl k1216) ?_
                    refine AO.p rfl (p_move rfl) ?_
                    obtain ⟨k1218, hd1219⟩ := chk_some hd1217
                    refine AO.p rfl (p_remE rfl rfl k1218) ?_
                    refine AO.p rfl (p_move rfl) ?_
                    refine AO.p rfl (p_move rfl) ?_
                    refine AO.p rfl (p_min rfl rfl rfl) ?_
                    obtain ⟨k1220, hd1221⟩ := chk_some hd1219
                    refine AO.p rfl (p_mulE rfl rfl k1220) ?_
                    refine AO.p rfl (p_move rfl) ?_
                    refine AO.p rfl (p_move rfl) ?_
                    refine AO.p rfl (p_max rfl rfl rfl) ?_
                    obtain ⟨k1222, hd1223⟩ := chk_some hd1221
                    refine AO.p rfl (p_addE rfl rfl k1222) ?_
                    obtain ⟨k1224, hd1225⟩ := chk_some hd1223
                    refine AO.p rfl (s_indexV (q := off p990 + ((x702 + a0 - (rd a2 x1117.toNat)).tmod a0).toNat) Try.underlying34 Try.sizeOf2 rfl (((TVw.at (S1182.oviewT (k := 3) rfl sT1115) e1116).len le1116).p (ints_get (lt_len le1116 (inR_lt k1224)))) rfl k1224 (o1 _ _)) ?_
                    obtain ⟨G1226, hHG1226, S1227⟩ := S1182.tset (k := 3) rfl e1116 (((TSb.at sT1115 e1116).len le1116).at (inR_pos k1224)) ((rw_ rs1114 x702.toNat).set (((x702 + a0 - (rd a2 x1117.toNat)).tmod a0).toNat) (14 * (if (rd (rw_ a1 x1117.toNat) 1 + x702).tmod a0 < (rd (rw_ a1 x1117.toNat) 0 + x702).tmod a0 then (rd (rw_ a1 x1117.toNat) 1 + x702).tmod a0 else (rd (rw_ a1 x1117.toNat) 0 + x702).tmod a0) + (if (rd (rw_ a1 x1117.toNat) 1 + x702).tmod a0 > (rd (rw_ a1 x1117.toNat) 0 + x702).tmod a0 then (rd (rw_ a1 x1117.toNat) 1 + x702).tmod a0 else (rd (rw_ a1 x1117.toNat) 0 + x702).tmod a0)))
                    have S1228 := S1227.hdr (k := 2) (tcells_set (xs' := ((rw_ rs1114 x702.toNat).set (((x702 + a0 - (rd a2 x1117.toNat)).tmod a0).toNat) (14 * (if (rd (rw_ a1 x1117.toNat) 1 + x702).tmod a0 < (rd (rw_ a1 x1117.toNat) 0 + x702).tmod a0 then (rd (rw_ a1 x1117.toNat) 1 + x702).tmod a0 else (rd (rw_ a1 x1117.toNat) 0 + x702).tmod a0) + (if (rd (rw_ a1 x1117.toNat) 1 + x702).tmod a0 > (rd (rw_ a1 x1117.toNat) 0 + x702).tmod a0 then (rd (rw_ a1 x1117.toNat) 1 + x702).tmod a0 else (rd (rw_ a1 x1117.toNat) 0 + x702).tmod a0)))) e1116 (len_set rfl)).symm rfl
                    refine AO.s (s_storeO (o := off p990 + ((x702 + a0 - (rd a2 x1117.toNat)).tmod a0).toNat) (q := ((x702 + a0 - (rd a2 x1117.toNat)).tmod a0).toNat) (off0 (((TSb.at sT1115 e1116).len le1116).at (inR_pos k1224)) _) Try.sizeOf2 rfl rfl rfl (S1182.tat (k := 3) rfl e1116 (((TSb.at sT1115 e1116).len le1116).at (inR_pos k1224))) (lt_len ((ints_length _).trans le1116) (inR_lt k1224)) ((congrArg (fun l => List.set _ _ (AObj.row false l)) (ints_set _ _ _)).trans hHG1226)) ?_
                    refine AO.nil ?_
                    refine AX.region ?_
                    refine AO.p rfl (p_move rfl) ?_
                    obtain ⟨k1229, hd1230⟩ := chk_some hd1225
                    refine AO.p rfl (p_addE rfl rfl k1229) ?_
                    refine AO.p rfl (p_assign rfl) ?_
                    refine AO.nil ?_
                    obtain rfl := some_inj hd1230
                    have S1232 := S1228.front 3 rfl
                    have S1233 := S1232.front 3 rfl
                    have S1234 := S1233.front 3 rfl
                    have S1235 := S1234.front 3 rfl
                    exact ⟨((rs1114.set x702.toNat ((rw_ rs1114 x702.toNat).set (((x702 + a0 - (rd a2 x1117.toNat)).tmod a0).toNat) (14 * (if (rd (rw_ a1 x1117.toNat) 1 + x702).tmod a0 < (rd (rw_ a1 x1117.toNat) 0 + x702).tmod a0 then (rd (rw_ a1 x1117.toNat) 1 + x702).tmod a0 else (rd (rw_ a1 x1117.toNat) 0 + x702).tmod a0) + (if (rd (rw_ a1 x1117.toNat) 1 + x702).tmod a0 > (rd (rw_ a1 x1117.toNat) 0 + x702).tmod a0 then (rd (rw_ a1 x1117.toNat) 1 + x702).tmod a0 else (rd (rw_ a1 x1117.toNat) 0 + x702).tmod a0)))), x1117 + 1), hk1181, (rs1114.set x702.toNat ((rw_ rs1114 x702.toNat).set (((x702 + a0 - (rd a2 x1117.toNat)).tmod a0).toNat) (14 * (if (rd (rw_ a1 x1117.toNat) 1 + x702).tmod a0 < (rd (rw_ a1 x1117.toNat) 0 + x702).tmod a0 then (rd (rw_ a1 x1117.toNat) 1 + x702).tmod a0 else (rd (rw_ a1 x1117.toNat) 0 + x702).tmod a0) + (if (rd (rw_ a1 x1117.toNat) 1 + x702).tmod a0 > (rd (rw_ a1 x1117.toNat) 0 + x702).tmod a0 then (rd (rw_ a1 x1117.toNat) 1 + x702).tmod a0 else (rd (rw_ a1 x1117.toNat) 0 + x702).tmod a0)))), (x1117 + 1), (T1115.set x702.toNat (p990, c991, ((rw_ rs1114 x702.toNat).set (((x702 + a0 - (rd a2 x1117.toNat)).tmod a0).toNat) (14 * (if (rd (rw_ a1 x1117.toNat) 1 + x702).tmod a0 < (rd (rw_ a1 x1117.toNat) 0 + x702).tmod a0 then (rd (rw_ a1 x1117.toNat) 1 + x702).tmod a0 else (rd (rw_ a1 x1117.toNat) 0 + x702).tmod a0) + (if (rd (rw_ a1 x1117.toNat) 1 + x702).tmod a0 > (rd (rw_ a1 x1117.toNat) 0 + x702).tmod a0 then (rd (rw_ a1 x1117.toNat) 1 + x702).tmod a0 else (rd (rw_ a1 x1117.toNat) 0 + x702).tmod a0))))), rfl, S1235, (len_set lrs1114), (trows_set' tT1115), (TSb.set sT1115 e1116 (len_set rfl)), (t_rw (trows_set' tT1115) (tset_same e1116)), (t_rwl (p := p990) (c := c991) (trows_set' tT1115) (tset_same e1116) (len_set le1116)), Sub.cons' rfl rfl (Sub.cons' rfl rfl (Sub.cons' rfl rfl (Sub.cons' rfl rfl (Sub.cons' rfl rfl (Sub.cons' rfl rfl (Sub.cons' rfl rfl (Sub.cons' rfl rfl (Sub.nil _))))))))⟩
                  · have hd1236 := bif_f c1186 ho1180
                    refine AX.exit ?_
                    obtain rfl := some_inj hd1236
                    have S1237 := S1182.front 3 rfl
                    have S1238 := S1237.front 3 rfl
                    have S1239 := S1238.front 3 rfl
                    have S1240 := S1239.front 3 rfl
                    exact ⟨rs1114, T1115, hk1181, S1240, lrs1114, tT1115, sT1115, Sub.cons' rfl rfl (Sub.cons' rfl rfl (Sub.cons' rfl rfl (Sub.cons' rfl rfl (Sub.cons' rfl rfl (Sub.cons' rfl rfl (Sub.nil _))))))⟩
              · rintro t' G1242 ⟨rs1170, T1171, rfl, S1241, lrs1170, tT1171, sT1171, hsub1243⟩
                refine ⟨_, hsub1243, ?_⟩
                refine AX.region ?_
                refine AO.p rfl (p_move rfl) ?_
                obtain ⟨k1244, hd1245⟩ := chk_some hd1174
                refine AO.p rfl (p_addE rfl rfl k1244) ?_
                refine AO.p rfl (p_assign rfl) ?_
                refine AO.nil ?_
                obtain rfl := some_inj hd1245
                have S1247 := S1241.front 3 rfl
                have S1248 := S1247.front 3 rfl
                have S1249 := S1248.front 3 rfl
                have S1250 := S1249.front 3 rfl
                exact ⟨(rs1170, x702 + 1), hk981, rs1170, (x702 + 1), T1171, rfl, S1250, lrs1170, tT1171, sT1171, Sub.cons' rfl rfl (Sub.cons' rfl rfl (Sub.cons' rfl rfl (Sub.cons' rfl rfl (Sub.cons' rfl rfl (Sub.cons' rfl rfl (Sub.nil _))))))⟩
            · have hd1251 := bif_f c986 ho980
              refine AX.exit ?_
              obtain rfl := some_inj hd1251
              have S1252 := S982.front 3 rfl
              have S1253 := S1252.front 3 rfl
              have S1254 := S1253.front 3 rfl
              have S1255 := S1254.front 3 rfl
              exact ⟨rs700, T701, hk981, S1255, lrs700, tT701, sT701, Sub.cons' rfl rfl (Sub.cons' rfl rfl (Sub.nil _))⟩
        · rintro t' G1257 ⟨rs970, T971, rfl, S1256, lrs970, tT971, sT971, hsub1258⟩
          refine ⟨_, hsub1258, ?_⟩
          refine AX.seq ?_
          refine AX.region ?_
          refine AO.c rfl (s_loadN (vs := [.int .i64 a0, .slice p143 rs140.length c144]) Try.isAgg53 Try.sizeOf53 rfl rfl (row_cells (S1256.get (k := 1) rfl))) ?_
          obtain ⟨G1259, hHG1259, S1260⟩ := S1256.set (k := 0) (i := i101) rfl (AObj.row false ([.int .i64 a0, .slice p143 rs140.length c144]))
          refine AO.s (s_storeAll (vs := [.int .i64 a0, .slice p143 rs140.length c144]) Try.sizeOf53 rfl rfl (ones_list rfl) (S1256.get (k := 0) rfl) rfl rfl hHG1259) ?_
          refine AO.p rfl (p_assign rfl) ?_
          refine AO.nil ?_
          refine AX.ret ?_
          obtain ⟨rfl, z1261⟩ := Prod.mk.inj (some_inj hd974)
          obtain ⟨rfl, rfl⟩ := Prod.mk.inj z1261
          have S1263 := S1260.front 3 rfl
          have S1264 := S1263.front 3 rfl
          have S1265 := S1264.keep 2
          exact ⟨.inr rfl, _, res2 rfl (rv_cell (vs := [.int .i64 a0, .slice p143 rs140.length c144]) rfl Try.isAgg53 Try.sizeOf53 rfl (row_cells (S1260.get (k := 0) rfl))) (rv_tmp rfl), p143, c144, T971, (by rw [show List.length rs970 = rs140.length from lrs970]), S1265, (by rw [show List.length rs970 = rs140.length from lrs970]; exact B146), tT971, sT971⟩

set_option maxHeartbeats 4000000 in
theorem W_impl_SquareOfStarter (fu : Nat) (H : AHeap) (a0 : Int) (p_a1 : Option Addr) (c_a1 : Nat) (T_a1 : Tb) (a1 : List (List Int)) (t_a1 : trows T_a1 = a1) (v_a1 : Vw H p_a1 a1.length c_a1 (tcells T_a1)) (w_a1 : TVw H T_a1) (p_a2 : Option Addr) (c_a2 : Nat) (a2 : List Int) (v_a2 : Vw H p_a2 a2.length c_a2 (ints a2)) (r0 : Int) (r1 : List (List Int)) (r2 : Int) (hd : D_impl_SquareOfStarter fu a0 a1 a2 = some (r0, r1, r2)) : ∃ v G', ACall Try.prog 50 [.int .i64 a0, .slice p_a1 a1.length c_a1, .slice p_a2 a2.length c_a2] H v G' ∧ ∃ (p_r1 : Option Addr) (c_r1 : Nat) (T_r1 : Tb), (v = .tuple #[.agg [.int .i64 r0, .slice p_r1 r1.length c_r1].toArray, .int .i64 r2]) ∧ St [] H G' [oseg p_r1 (tcells T_r1), tseg T_r1] ∧ Sb p_r1 r1.length c_r1 1 ∧ trows T_r1 = r1 ∧ TSb T_r1 := by
  refine ACall.bodyX (args := [.int .i64 a0, .slice p_a1 a1.length c_a1, .slice p_a2 a2.length c_a2]) (N := 79) [(0, .int .i64 a0), (1, .slice p_a1 a1.length c_a1), (2, .slice p_a2 a2.length c_a2)] (fun v G' => ∃ (p_r1 : Option Addr) (c_r1 : Nat) (T_r1 : Tb), (v = .tuple #[.agg [.int .i64 r0, .slice p_r1 r1.length c_r1].toArray, .int .i64 r2]) ∧ St [] H G' [oseg p_r1 (tcells T_r1), tseg T_r1] ∧ Sb p_r1 r1.length c_r1 1 ∧ trows T_r1 = r1 ∧ TSb T_r1) Try.func50 rfl rfl rfl rfl ?_
  unfold D_impl_SquareOfStarter at hd
  have S0 : St [] H H [] := St.nil H
  refine AX.seq ?_
  refine AX.region ?_
  obtain ⟨G100, i101, hii101, hHG100, S102⟩ := S0.new (AObj.row false ([.int .i64 0, .slice none 0 0]))
  refine AO.c rfl (s_alloc (i := i101) (cs := [.int .i64 0, .slice none 0 0]) Try.zeroValue53 rfl rfl hii101 hHG100) ?_
  refine AO.p rfl (p_assign rfl) ?_
  refine AO.nil ?_
  refine AX.seq ?_
  refine AX.region ?_
  refine AO.p rfl (p_move rfl) ?_
  refine AO.p rfl (p_move rfl) ?_
  refine AO.p rfl (p_move rfl) ?_
  obtain ⟨⟨b104, x105⟩, h106, hd107⟩ := bnd_some hd
  refine AO.c rfl (o_call (vs := [.int .i64 a0, .slice p_a1 a1.length c_a1, .slice p_a2 a2.length c_a2]) rfl Try.call31 (W_impl_IsAdder fu G100 a0 p_a1 c_a1 T_a1 a1 t_a1 (S102.view v_a1) (S102.tview w_a1) p_a2 c_a2 a2 (S102.view v_a2) b104 x105 h106)) ?_
  refine AO.p rfl (p_move rfl) ?_
  refine AO.p rfl (p_extract rfl rfl) ?_
  refine AO.p rfl (p_extract rfl rfl) ?_
  refine AO.p rfl (p_assign rfl) ?_
  refine AO.p rfl (p_assign rfl) ?_
  refine AO.nil ?_
  refine AX.seq ?_
  refine AX.block ?_
  refine AX.seq ?_
  refine AX.region ?_
  refine AO.p rfl (p_move rfl) ?_
  refine AO.p rfl (p_neq rfl rfl) ?_
  refine AO.p rfl (p_assign rfl) ?_
  refine AO.nil ?_
  refine AX.cond rfl (fun c109 => ?_) (fun c109 => ?_)
  · have hd110 := bif_t c109 hd107
    refine AX.seq ?_
    refine AX.region ?_
    refine AO.p rfl (p_build2 (vs := []) (cs := [.int .i64 0, .slice none 0 0]) Try.underlying53 rfl rfl rfl Try.sizeOf2 Try.sizeOf22 Try.zeroValue53 rfl rfl rfl rfl rfl) ?_
    refine AO.p rfl (p_move rfl) ?_
    obtain ⟨G111, hHG111, S112⟩ := S102.set (k := 0) (i := i101) rfl (AObj.row false ([.int .i64 0, .slice none 0 0]))
    refine AO.s (s_storeAll (vs := [.int .i64 0, .slice none 0 0]) Try.sizeOf53 rfl rfl (ones_list rfl) (S102.get (k := 0) rfl) rfl rfl hHG111) ?_
    refine AO.p rfl (p_assign rfl) ?_
    refine AO.nil ?_
    refine AX.ret ?_
    obtain ⟨rfl, z113⟩ := Prod.mk.inj (some_inj hd110)
    obtain ⟨rfl, rfl⟩ := Prod.mk.inj z113
    have S115 : St [] H G111 (tseg [] :: _) := S112.nilseg 0
    have S116 : St [] H G111 (oseg none (tcells []) :: _) := S115.nilseg 0
    have S117 := S116.keep 2
    exact ⟨.inr rfl, _, res2 rfl (rv_cell (vs := [.int .i64 0, .slice none 0 0]) rfl Try.isAgg53 Try.sizeOf53 rfl (row_cells (S112.get (k := 0) rfl))) (rv_tmp rfl), none, 0, [], rfl, S117, Sb.nil, rfl, TSb.nil⟩
  · have hd118 := bif_f c109 hd107
    refine AX.seq ?_
    refine AX.region ?_
    refine AO.p rfl (p_move rfl) ?_
    refine AO.p rfl (p_not rfl) ?_
    refine AO.p rfl (p_assign rfl) ?_
    refine AO.nil ?_
    refine AX.cond rfl (fun c119 => ?_) (fun c119 => ?_)
    · have hd120 := bif_t c119 hd118
      refine AX.seq ?_
      refine AX.region ?_
      refine AO.p rfl (p_build2 (vs := []) (cs := [.int .i64 0, .slice none 0 0]) Try.underlying53 rfl rfl rfl Try.sizeOf2 Try.sizeOf22 Try.zeroValue53 rfl rfl rfl rfl rfl) ?_
      obtain ⟨G121, hHG121, S122⟩ := S102.set (k := 0) (i := i101) rfl (AObj.row false ([.int .i64 0, .slice none 0 0]))
      refine AO.s (s_storeAll (vs := [.int .i64 0, .slice none 0 0]) Try.sizeOf53 rfl rfl (ones_list rfl) (S102.get (k := 0) rfl) rfl rfl hHG121) ?_
      refine AO.p rfl (p_assign rfl) ?_
      refine AO.nil ?_
      refine AX.ret ?_
      obtain ⟨rfl, z123⟩ := Prod.mk.inj (some_inj hd120)
      obtain ⟨rfl, rfl⟩ := Prod.mk.inj z123
      have S125 : St [] H G121 (tseg [] :: _) := S122.nilseg 0
      have S126 : St [] H G121 (oseg none (tcells []) :: _) := S125.nilseg 0
      have S127 := S126.keep 2
      exact ⟨.inr rfl, _, res2 rfl (rv_cell (vs := [.int .i64 0, .slice none 0 0]) rfl Try.isAgg53 Try.sizeOf53 rfl (row_cells (S122.get (k := 0) rfl))) (rv_tmp rfl), none, 0, [], rfl, S127, Sb.nil, rfl, TSb.nil⟩
    · have hd128 := bif_f c119 hd118
      refine AX.skip ?_
      refine AX.seq ?_
      refine AX.region ?_
      refine AO.p rfl (p_move rfl) ?_
      obtain ⟨⟨x129, rs130⟩, h131, hd132⟩ := bnd_some hd128
      obtain ⟨_, G141, hc140, p133, c134, T137, rfl, S142, B136, t138, s139⟩ := W_impl_emptySquare fu G100 a0 x129 rs130 h131
      have S143 := S102.call S142
      refine AO.c rfl (o_call (vs := [.int .i64 a0]) rfl Try.call84 hc140) ?_
      obtain ⟨G144, i145, hii145, hHG144, S146⟩ := S143.new (AObj.row false ([.int .i64 0, .slice none 0 0]))
      refine AO.c rfl (s_alloc (i := i145) (cs := [.int .i64 0, .slice none 0 0]) Try.zeroValue53 rfl rfl hii145 hHG144) ?_
      obtain ⟨G148, hHG148, S149⟩ := S146.set (k := 0) (i := i145) rfl (AObj.row false ([.int .i64 x129, .slice p133 rs130.length c134]))
      refine AO.s (s_storeAll (vs := [.int .i64 x129, .slice p133 rs130.length c134]) Try.sizeOf53 rfl rfl (ones_list rfl) (S146.get (k := 0) rfl) rfl rfl hHG148) ?_
      refine AO.nil ?_
      refine AX.seq ?_
      refine AX.seq ?_
      refine AX.region ?_
      refine AO.p rfl (p_move rfl) ?_
      refine AO.p rfl (p_move rfl) ?_
      refine AO.nil ?_
      obtain ⟨r926, hl927, hd928⟩ := bnd_some hd132
      refine AX.cutS (fun t' H' => ∃ (rs924 : List (List Int)) (T925 : Tb), rs924 = r926 ∧ St [] H H' [[(i101, AObj.row false ([.int .i64 0, .slice none 0 0]))], [(i145, AObj.row false ([.int .i64 x129, .slice p133 rs130.length c134]))], oseg p133 (tcells T925), tseg T925] ∧ rs924.length = rs130.length ∧ trows T925 = rs924 ∧ TSb T925 ∧ Am.Sub [(6, .pointer (some ⟨i101, 0, none⟩)), (10, .pointer (some ⟨i145, 0, none⟩))] t') ?_ ?_
      · refine AX.block ?_
        refine AX.loopF (fun s' t' H' => ∃ (rs666 : List (List Int)) (x668 : Int) (T667 : Tb), (rs666, x668) = s' ∧ St [] H H' [[(i101, AObj.row false ([.int .i64 0, .slice none 0 0]))], [(i145, AObj.row false ([.int .i64 x129, .slice p133 rs130.length c134]))], oseg p133 (tcells T667), tseg T667] ∧ rs666.length = rs130.length ∧ trows T667 = rs666 ∧ TSb T667 ∧ Am.Sub [(0, .int .i64 a0), (1, .slice p_a1 a1.length c_a1), (2, .slice p_a2 a2.length c_a2), (6, .pointer (some ⟨i101, 0, none⟩)), (10, .pointer (some ⟨i145, 0, none⟩)), (32, .int .i64 a0), (33, .int .i64 x668)] t') hl927 ?_ ?_
        · skip
          have S929 := S149.front 2 rfl
          have S930 := S929.front 2 rfl
          have S931 := S930.front 2 rfl
          have S932 := S931.front 3 rfl
          exact ⟨rs130, 0, T137, rfl, S932, rfl, t138, s139, Sub.cons' rfl rfl (Sub.cons' rfl rfl (Sub.cons' rfl rfl (Sub.cons' rfl rfl (Sub.cons' rfl rfl (Sub.cons' rfl rfl (Sub.cons' rfl rfl (Sub.nil _)))))))⟩
        · rintro n933 _ t' G937 ⟨rs666, x668, T667, rfl, S936, lrs666, tT667, sT667, hsub938⟩ o939 ho934 hk935
          refine AX.sub hsub938 ?_
          unfold D_impl_SquareOfStarter_s0 at ho934
          refine AX.seq ?_
          refine AX.region ?_
          refine AO.p rfl (p_lss rfl rfl) ?_
          refine AO.nil ?_
          refine AX.seq ?_
          refine AX.cond rfl (fun c940 => ?_) (fun c940 => ?_)
          · have hd941 := bif_t c940 ho934
            refine AX.skip ?_
            refine AX.seq ?_
            refine AX.block ?_
            refine AX.seq ?_
            refine AX.region ?_
            refine AO.p rfl (p_move rfl) ?_
            refine AO.p rfl (p_assign rfl) ?_
            refine AO.nil ?_
            refine AX.seq ?_
            refine AX.region ?_
            refine AO.c rfl (s_loadN (vs := [.int .i64 x129, .slice p133 rs130.length c134]) Try.isAgg53 Try.sizeOf53 rfl rfl (row_cells (S936.get (k := 1) rfl))) ?_
            refine AO.p rfl (p_move rfl) ?_
            refine AO.p rfl (p_move rfl) ?_
            refine AO.p rfl (p_move rfl) ?_
            refine AO.p rfl (p_move rfl) ?_
            have S942 := S936.front 3 rfl
            have S943 := S942.front 3 rfl
            obtain ⟨rs944, h945, hd946⟩ := bnd_some hd941
            obtain ⟨_, G952, hc951, T947, rfl, S953, t948, s949, l950⟩ := W_impl_Square_put fu G937 x129 p133 c134 T667 rs666 tT667 (by rw [show List.length rs666 = rs130.length from lrs666]; exact B136) sT667 x668 x668 x668 a0 ((S943).join2.onodup (k := 0) rfl) ((S943).join2.omem (k := 0) rfl) rs944 h945
            rw [show List.length rs666 = rs130.length from lrs666] at hc951
            have S954 := St.callM (A := [oseg p133 (tcells T667), tseg T667]) S943 S953 (by simp)
            refine AO.c rfl (o_call (vs := [.agg [.int .i64 x129, .slice p133 rs130.length c134].toArray, .int .i64 x668, .int .i64 x668, .int .i64 x668, .int .i64 a0]) rfl Try.call85 hc951) ?_
            refine AO.nil ?_
            refine AX.seq ?_
            refine AX.region ?_
            refine AO.p rfl (p_move rfl) ?_
            refine AO.p rfl (p_len_slice rfl Try.underlying22) ?_
            refine AO.p rfl (p_move rfl) ?_
            refine AO.nil ?_
            obtain ⟨r1116, hl1117, hd1118⟩ := bnd_some hd946
            refine AX.cutS (fun t' H' => ∃ (rs1114 : List (List Int)) (T1115 : Tb), rs1114 = r1116 ∧ St [] H H' [[(i101, AObj.row false ([.int .i64 0, .slice none 0 0]))], [(i145, AObj.row false ([.int .i64 x129, .slice p133 rs130.length c134]))], oseg p133 (tcells T1115), tseg T1115] ∧ rs1114.length = rs130.length ∧ trows T1115 = rs1114 ∧ TSb T1115 ∧ Am.Sub [(0, .int .i64 a0), (1, .slice p_a1 a1.length c_a1), (2, .slice p_a2 a2.length c_a2), (6, .pointer (some ⟨i101, 0, none⟩)), (10, .pointer (some ⟨i145, 0, none⟩)), (32, .int .i64 a0), (33, .int .i64 x668)] t') ?_ ?_
            · refine AX.block ?_
              refine AX.loopF (fun s' t' H' => ∃ (rs1061 : List (List Int)) (x1063 : Int) (T1062 : Tb), (rs1061, x1063) = s' ∧ St [] H H' [[(i101, AObj.row false ([.int .i64 0, .slice none 0 0]))], [(i145, AObj.row false ([.int .i64 x129, .slice p133 rs130.length c134]))], oseg p133 (tcells T1062), tseg T1062] ∧ rs1061.length = rs130.length ∧ trows T1062 = rs1061 ∧ TSb T1062 ∧ Am.Sub [(0, .int .i64 a0), (1, .slice p_a1 a1.length c_a1), (2, .slice p_a2 a2.length c_a2), (6, .pointer (some ⟨i101, 0, none⟩)), (10, .pointer (some ⟨i145, 0, none⟩)), (11, .int .i64 x668), (32, .int .i64 a0), (33, .int .i64 x668), (42, .slice p_a1 a1.length c_a1), (43, .int .i64 ((a1.length : Nat) : Int)), (44, .int .i64 x1063)] t') hl1117 ?_ ?_
              · skip
                have S1119 := S954.front 1 rfl
                have S1120 := S1119.front 1 rfl
                have S1121 := S1120.front 3 rfl
                have S1122 := S1121.front 3 rfl
                exact ⟨rs944, 0, T947, rfl, S1122, (Eq.trans l950 lrs666), t948, s949, Sub.cons' rfl rfl (Sub.cons' rfl rfl (Sub.cons' rfl rfl (Sub.cons' rfl rfl (Sub.cons' rfl rfl (Sub.cons' rfl rfl (Sub.cons' rfl rfl (Sub.cons' rfl rfl (Sub.cons' rfl rfl (Sub.cons' rfl rfl (Sub.cons' rfl rfl (Sub.nil _)))))))))))⟩
              · rintro n1123 _ t' G1127 ⟨rs1061, x1063, T1062, rfl, S1126, lrs1061, tT1062, sT1062, hsub1128⟩ o1129 ho1124 hk1125
                refine AX.sub hsub1128 ?_
                unfold D_impl_SquareOfStarter_s1 at ho1124
                refine AX.seq ?_
                refine AX.region ?_
                refine AO.p rfl (p_lss rfl rfl) ?_
                refine AO.nil ?_
                refine AX.seq ?_
                refine AX.cond rfl (fun c1130 => ?_) (fun c1130 => ?_)
                · have hd1131 := bif_t c1130 ho1124
                  refine AX.skip ?_
                  refine AX.seq ?_
                  refine AX.block ?_
                  refine AX.seq ?_
                  refine AX.region ?_
                  refine AO.p rfl (p_move rfl) ?_
                  obtain ⟨k1132, hd1133⟩ := chk_some hd1131
                  obtain ⟨p1134, c1135, e1136, f1137⟩ := tget t_a1 (lt_len rfl (inR_lt k1132))
                  refine AO.p rfl (s_indexV (q := off p_a1 + x1063.toNat) Try.underlying22 Try.sizeOf34 rfl ((S1126.view v_a1).p f1137) rfl k1132 (o1 _ _)) ?_
                  refine AO.c rfl (s_load Try.isAgg34 rfl ((S1126.view v_a1).get _ _ f1137)) ?_
                  refine AO.p rfl (p_assign rfl) ?_
                  refine AO.p rfl (p_assign rfl) ?_
                  refine AO.nil ?_
                  refine DR.startS [false, false, false, false, false, false, false, false, false, false, false, false, false, false, false, false, false, false, false, false, false, false, false, false, false, false, true] mix (by kernel_rfl) (fun hst => ?_)
                  refine DR.r rfl rfl (r_loadN (vs := [.int .i64 x129, .slice p133 rs130.length c134]) rfl Try.isAgg53 Try.sizeOf53 rfl) (many_row (row_cells (S1126.get (k := 1) rfl)) (bel_cons (.of_flat0 rfl) (bel_cons (S1126.oin (k := 2) rfl B136).bel bel_nil))) ?_
                  refine DR.p rfl rfl (p_move rfl) ?_
                  refine DR.p rfl rfl (p_move rfl) ?_
                  refine DR.p rfl rfl (p_move rfl) ?_
                  refine DR.p rfl rfl (p_move rfl) ?_
                  obtain ⟨k1138, hd1139⟩ := chk_some hd1133
                  refine DR.p rfl rfl (s_indexV (q := off p_a2 + x1063.toNat) Try.underlying34 Try.sizeOf2 rfl ((S1126.view v_a2).p (ints_get (lt_len rfl (inR_lt k1138)))) rfl k1138 (o1 _ _)) ?_
                  refine DR.r rfl rfl (r_load rfl Try.isAgg2) (one_read ((S1126.view v_a2).get _ _ (ints_get (lt_len rfl (inR_lt k1138)))) (.of_flat0 rfl)) ?_
                  obtain ⟨k1140, hd1141⟩ := chk_some hd1139
                  refine DR.p rfl rfl (p_subE rfl rfl k1140) ?_
                  refine DR.p rfl rfl (p_move rfl) ?_
                  obtain ⟨k1142, hd1143⟩ := chk_some hd1141
                  refine DR.p rfl rfl (p_addE rfl rfl k1142) ?_
                  refine DR.p rfl rfl (p_move rfl) ?_
                  obtain ⟨k1144, hd1145⟩ := chk_some hd1143
                  refine DR.p rfl rfl (p_remE rfl rfl k1144) ?_
                  refine DR.p rfl rfl (p_move rfl) ?_
                  obtain ⟨k1146, hd1147⟩ := chk_some hd1145
                  refine DR.p rfl rfl (s_indexV (q := off p1134 + 0) Try.underlying34 Try.sizeOf2 rfl ((TVw.at (S1126.tview w_a1) e1136).p (ints_get (lt_len rfl (inR_lt k1146)))) rfl k1146 (o1 _ _)) ?_
                  refine DR.r rfl rfl (r_load rfl Try.isAgg2) (one_read ((TVw.at (S1126.tview w_a1) e1136).get _ _ (ints_get (lt_len rfl (inR_lt k1146)))) (.of_flat0 rfl)) ?_
                  refine DR.p rfl rfl (p_move rfl) ?_
                  obtain ⟨k1148, hd1149⟩ := chk_some hd1147
                  refine DR.p rfl rfl (p_addE rfl rfl k1148) ?_
                  refine DR.p rfl rfl (p_move rfl) ?_
                  obtain ⟨k1150, hd1151⟩ := chk_some hd1149
                  refine DR.p rfl rfl (p_remE rfl rfl k1150) ?_
                  refine DR.p rfl rfl (p_move rfl) ?_
                  obtain ⟨k1152, hd1153⟩ := chk_some hd1151
                  refine DR.p rfl rfl (s_indexV (q := off p1134 + 1) Try.underlying34 Try.sizeOf2 rfl ((TVw.at (S1126.tview w_a1) e1136).p (ints_get (lt_len rfl (inR_lt k1152)))) rfl k1152 (o1 _ _)) ?_
                  refine DR.r rfl rfl (r_load rfl Try.isAgg2) (one_read ((TVw.at (S1126.tview w_a1) e1136).get _ _ (ints_get (lt_len rfl (inR_lt k1152)))) (.of_flat0 rfl)) ?_
                  refine DR.p rfl rfl (p_move rfl) ?_
                  obtain ⟨k1154, hd1155⟩ := chk_some hd1153
                  refine DR.p rfl rfl (p_addE rfl rfl k1154) ?_
                  refine DR.p rfl rfl (p_move rfl) ?_
                  obtain ⟨k1156, hd1157⟩ := chk_some hd1155
                  refine DR.p rfl rfl (p_remE rfl rfl k1156) ?_
                  have S1158 := S1126.front 3 rfl
                  have S1159 := S1158.front 3 rfl
                  obtain ⟨rs1160, h1161, hd1162⟩ := bnd_some hd1157
                  obtain ⟨_, G1168, hc1167, T1163, rfl, S1169, t1164, s1165, l1166⟩ := W_impl_Square_put fu G1127 x129 p133 c134 T1062 rs1061 tT1062 (by rw [show List.length rs1061 = rs130.length from lrs1061]; exact B136) sT1062 x668 ((x668 - (rd a2 x1063.toNat) + a0).tmod a0) ((rd (rw_ a1 x1063.toNat) 0 + x668).tmod a0) ((rd (rw_ a1 x1063.toNat) 1 + x668).tmod a0) ((S1159).join2.onodup (k := 0) rfl) ((S1159).join2.omem (k := 0) rfl) rs1160 h1161
                  rw [show List.length rs1061 = rs130.length from lrs1061] at hc1167
                  have S1170 := St.callM (A := [oseg p133 (tcells T1062), tseg T1062]) S1159 S1169 (by simp)
                  refine DR.w rfl rfl (o_call (vs := [.agg [.int .i64 x129, .slice p133 rs130.length c134].toArray, .int .i64 x668, .int .i64 ((x668 - (rd a2 x1063.toNat) + a0).tmod a0), .int .i64 ((rd (rw_ a1 x1063.toNat) 0 + x668).tmod a0), .int .i64 ((rd (rw_ a1 x1063.toNat) 1 + x668).tmod a0)]) rfl Try.call85 hc1167) (S1169.len) ?_
                  refine DR.nil 27 [] hst (by kernel_rfl) trivial ?_
                  refine AX.region ?_
                  obtain ⟨k1171, hd1172⟩ := chk_some hd1162
                  refine AO.p rfl (p_addE rfl rfl k1171) ?_
                  refine AO.p rfl (p_move rfl) ?_
                  refine AO.nil ?_
                  obtain rfl := some_inj hd1172
                  have S1174 := S1170.front 1 rfl
                  have S1175 := S1174.front 1 rfl
                  have S1176 := S1175.front 3 rfl
                  have S1177 := S1176.front 3 rfl
                  exact ⟨(rs1160, x1063 + 1), hk1125, rs1160, (x1063 + 1), T1163, rfl, S1177, (Eq.trans l1166 lrs1061), t1164, s1165, Sub.cons' rfl rfl (Sub.cons' rfl rfl (Sub.cons' rfl rfl (Sub.cons' rfl rfl (Sub.cons' rfl rfl (Sub.cons' rfl rfl (Sub.cons' rfl rfl (Sub.cons' rfl rfl (Sub.cons' rfl rfl (Sub.cons' rfl rfl (Sub.cons' rfl rfl (Sub.nil _)))))))))))⟩
                · have hd1178 := bif_f c1130 ho1124
                  refine AX.exit ?_
                  obtain rfl := some_inj hd1178
                  have S1179 := S1126.front 3 rfl
                  have S1180 := S1179.front 3 rfl
                  have S1181 := S1180.front 3 rfl
                  have S1182 := S1181.front 3 rfl
                  exact ⟨rs1061, T1062, hk1125, S1182, lrs1061, tT1062, sT1062, Sub.cons' rfl rfl (Sub.cons' rfl rfl (Sub.cons' rfl rfl (Sub.cons' rfl rfl (Sub.cons' rfl rfl (Sub.cons' rfl rfl (Sub.cons' rfl rfl (Sub.nil _)))))))⟩
            · rintro t' G1184 ⟨rs1114, T1115, rfl, S1183, lrs1114, tT1115, sT1115, hsub1185⟩
              refine ⟨_, hsub1185, ?_⟩
              refine AX.region ?_
              obtain ⟨k1186, hd1187⟩ := chk_some hd1118
              refine AO.p rfl (p_addE rfl rfl k1186) ?_
              refine AO.p rfl (p_move rfl) ?_
              refine AO.nil ?_
              obtain rfl := some_inj hd1187
              have S1189 := S1183.front 3 rfl
              have S1190 := S1189.front 3 rfl
              have S1191 := S1190.front 3 rfl
              have S1192 := S1191.front 3 rfl
              exact ⟨(rs1114, x668 + 1), hk935, rs1114, (x668 + 1), T1115, rfl, S1192, lrs1114, tT1115, sT1115, Sub.cons' rfl rfl (Sub.cons' rfl rfl (Sub.cons' rfl rfl (Sub.cons' rfl rfl (Sub.cons' rfl rfl (Sub.cons' rfl rfl (Sub.cons' rfl rfl (Sub.nil _)))))))⟩
          · have hd1193 := bif_f c940 ho934
            refine AX.exit ?_
            obtain rfl := some_inj hd1193
            have S1194 := S936.front 3 rfl
            have S1195 := S1194.front 3 rfl
            have S1196 := S1195.front 3 rfl
            have S1197 := S1196.front 3 rfl
            exact ⟨rs666, T667, hk935, S1197, lrs666, tT667, sT667, Sub.cons' rfl rfl (Sub.cons' rfl rfl (Sub.nil _))⟩
      · rintro t' G1199 ⟨rs924, T925, rfl, S1198, lrs924, tT925, sT925, hsub1200⟩
        refine ⟨_, hsub1200, ?_⟩
        refine AX.seq ?_
        refine AX.region ?_
        refine AO.c rfl (s_loadN (vs := [.int .i64 x129, .slice p133 rs130.length c134]) Try.isAgg53 Try.sizeOf53 rfl rfl (row_cells (S1198.get (k := 1) rfl))) ?_
        obtain ⟨G1201, hHG1201, S1202⟩ := S1198.set (k := 0) (i := i101) rfl (AObj.row false ([.int .i64 x129, .slice p133 rs130.length c134]))
        refine AO.s (s_storeAll (vs := [.int .i64 x129, .slice p133 rs130.length c134]) Try.sizeOf53 rfl rfl (ones_list rfl) (S1198.get (k := 0) rfl) rfl rfl hHG1201) ?_
        refine AO.p rfl (p_assign rfl) ?_
        refine AO.nil ?_
        refine AX.ret ?_
        obtain ⟨rfl, z1203⟩ := Prod.mk.inj (some_inj hd928)
        obtain ⟨rfl, rfl⟩ := Prod.mk.inj z1203
        have S1205 := S1202.front 3 rfl
        have S1206 := S1205.front 3 rfl
        have S1207 := S1206.keep 2
        exact ⟨.inr rfl, _, res2 rfl (rv_cell (vs := [.int .i64 x129, .slice p133 rs130.length c134]) rfl Try.isAgg53 Try.sizeOf53 rfl (row_cells (S1202.get (k := 0) rfl))) (rv_tmp rfl), p133, c134, T925, (by rw [show List.length rs924 = rs130.length from lrs924]), S1207, (by rw [show List.length rs924 = rs130.length from lrs924]; exact B136), tT925, sT925⟩

end Go.Proofs.Ytakfkiahhfdjfaa
