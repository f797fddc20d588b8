/-
  The program computes that, printed by a program. No condition.
-/
import Derived.Test.YtdafmafigcljkaaDFa
import Derived.Test.YtdafmafigcljkaaWA
import Derived.Test.YtdafmafigcljkaaBit
import Derived.Test.YtdafmafigcljkaaFb
import Derived.Test.YtdafmafigcljkaaProg
import Derived.KernelRfl
namespace Go.Proofs.Ytdafmafigcljkaa
open Go Go.RowKit Am
set_option linter.unusedVariables false
set_option linter.unusedSimpArgs false
set_option maxRecDepth 20000
set_option maxHeartbeats 4000000 in
theorem W_spec_l01Round (fu : Nat) (H : AHeap) (a0 : Int) (a1 : List Int) (h_a1 : a1.length = 14) (r0 : Bool) (hd : D_spec_l01Round fu a0 a1 = some r0) : ACall Try.prog 118 [.int .i64 a0, .agg (ints a1).toArray] H (.bool r0) H := by
  refine ACall.bodyP (N := 45) [(0, .int .i64 a0), (1, .agg (ints a1).toArray)] Try.func118 rfl rfl rfl rfl ?_
  unfold D_spec_l01Round at hd
  have S0 : St [] H H [] := St.nil H
  refine AX.seq ?_
  refine AX.region ?_
  obtain ⟨G100, i101, hii101, hHG100, S102⟩ := S0.new (AObj.row false (ints a1))
  refine AO.c rfl (s_box (i := i101) (cs := ints a1) rfl hii101 rfl hHG100) ?_
  refine AO.p rfl (p_assign rfl) ?_
  refine AO.nil ?_
  refine AX.seq ?_
  refine AX.seq ?_
  refine AX.region ?_
  refine AO.p rfl (p_move rfl) ?_
  obtain ⟨b104, h105, hd106⟩ := bnd_some hd
  refine AO.c rfl (o_call (vs := [.int .i64 a0, .int .i64 2, .int .i64 14]) rfl Try.call50 (W_spec_l01In fu G100 a0 2 14 b104 h105)) ?_
  refine AO.p rfl (p_not rfl) ?_
  refine AO.nil ?_
  refine AX.cond rfl (fun c108 => ?_) (fun c108 => ?_)
  · have hd109 := bif_t c108 hd106
    refine AX.seq ?_
    refine AX.region ?_
    refine AO.p rfl (p_assign rfl) ?_
    refine AO.nil ?_
    refine AX.ret ?_
    obtain rfl := some_inj hd109
    exact ⟨.inr rfl, _, res1 rfl (rv_tmp rfl), rfl, (flatB_ok rfl), S102.hold⟩
  · have hd110 := bif_f c108 hd106
    refine AX.skip ?_
    refine AX.seq ?_
    refine AX.seq ?_
    refine AX.region ?_
    refine AO.p rfl (p_assign rfl) ?_
    refine AO.nil ?_
    obtain ⟨r438, hl439, hd440⟩ := bnd_some hd110
    refine AX.cutS (fun t' H' => .inl () = r438 ∧ St [] H H' [] ∧ Am.Sub [] t') ?_ ?_
    · refine AX.block ?_
      refine AX.loopF (fun s' t' H' => ∃ (x323 : Int), x323 = s' ∧ St [] H H' [[(i101, AObj.row false (ints a1))]] ∧ Am.Sub [(0, .int .i64 a0), (3, .pointer (some ⟨i101, 0, none⟩)), (5, .int .i64 x323)] t') hl439 ?_ ?_
      · skip
        have S441 := S102.front 0 rfl
        exact ⟨0, rfl, S441, Sub.cons' rfl rfl (Sub.cons' rfl rfl (Sub.cons' rfl rfl (Sub.nil _)))⟩
      · rintro n442 _ t' G446 ⟨x323, rfl, S445, hsub447⟩ o448 ho443 hk444
        refine AX.sub hsub447 ?_
        unfold D_spec_l01Round_s0 at ho443
        refine AX.seq ?_
        refine AX.seq ?_
        refine AX.region ?_
        refine AO.p rfl (p_move rfl) ?_
        refine AO.p rfl (p_lss rfl rfl) ?_
        refine AO.nil ?_
        refine AX.cond rfl (fun c449 => ?_) (fun c449 => ?_)
        · have hd450 := bif_t c449 ho443
          refine AX.skip ?_
          refine AX.seq ?_
          refine AX.block ?_
          obtain ⟨r497, hb498, hd499⟩ := bnd_some hd450
          refine AX.cut (fun t' H' => ∃ (b496 : Bool), b496 = r497 ∧ St [] H H' [[(i101, AObj.row false (ints a1))]] ∧ Am.Sub [(0, .int .i64 a0), (3, .pointer (some ⟨i101, 0, none⟩)), (5, .int .i64 x323), (44, .bool b496)] t') ?_ ?_
          · skip
            refine AX.region ?_
            refine AO.p rfl (p_move rfl) ?_
            refine AO.p rfl (p_move rfl) ?_
            refine AO.p rfl (p_geq rfl rfl) ?_
            refine AO.p rfl (p_move rfl) ?_
            refine AO.cases (d := 16) rfl (fun c500 => ?_) (fun c500 => ?_)
            · have hd501 := bif_t c500 hb498
              refine AO.gp rfl rfl rfl (p_move rfl) ?_
              obtain ⟨k502, hd503⟩ := chk_some hd501
              refine AO.gp rfl rfl rfl (s_indexAr (q := x323.toNat) Try.underlying54 Try.sizeOf2 rfl rfl k502 (z1 _)) ?_
              refine AO.gc rfl rfl rfl (s_load Try.isAgg2 rfl (row_cell (S445.get (k := 0) rfl) (ints_get (lt_len h_a1 (inR_lt k502))))) ?_
              refine AO.gp rfl rfl rfl (p_neq rfl rfl) ?_
              refine AO.p rfl (p_pickT rfl rfl) ?_
              refine AO.p rfl (p_move rfl) ?_
              refine AO.cases (d := 22) rfl (fun c504 => ?_) (fun c504 => ?_)
              · have hd505 := bif_t c504 hd503
                refine AO.gn rfl rfl rfl ?_
                refine AO.gn rfl rfl rfl ?_
                refine AO.gn rfl rfl rfl ?_
                refine AO.gn rfl rfl rfl ?_
                refine AO.gu rfl rfl rfl ?_
                refine AO.gu rfl rfl rfl ?_
                refine AO.gu rfl rfl rfl ?_
                refine AO.gu rfl rfl rfl ?_
                refine AO.gu rfl rfl rfl ?_
                refine AO.gu rfl rfl rfl ?_
                refine AO.gu rfl rfl rfl ?_
                refine AO.gu rfl rfl rfl ?_
                refine AO.gu rfl rfl rfl ?_
                refine AO.gu rfl rfl rfl ?_
                refine AO.gu rfl rfl rfl ?_
                refine AO.gu rfl rfl rfl ?_
                refine AO.gu rfl rfl rfl ?_
                refine AO.gu rfl rfl rfl ?_
                refine AO.gu rfl rfl rfl ?_
                refine AO.gu rfl rfl rfl ?_
                refine AO.gn rfl rfl rfl ?_
                refine AO.p rfl (p_pickT rfl rfl) ?_
                refine AO.nil ?_
                have S506 := S445.front 0 rfl
                exact ⟨true, (some_inj hd505), S506, Sub.cons' rfl rfl (Sub.cons' rfl rfl (Sub.cons' rfl rfl (Sub.cons' rfl rfl (Sub.nil _))))⟩
              · have hd507 := bif_f c504 hd503
                refine AO.gp rfl rfl rfl (p_move rfl) ?_
                refine AO.gp rfl rfl rfl (p_move rfl) ?_
                refine AO.gp rfl rfl rfl (p_lss rfl rfl) ?_
                refine AO.gp rfl rfl rfl (p_move rfl) ?_
                refine AO.cases (d := 26) rfl (fun c508 => ?_) (fun c508 => ?_)
                · have hd509 := bif_t c508 hd507
                  refine AO.gp rfl rfl rfl (p_move rfl) ?_
                  obtain ⟨k510, hd511⟩ := chk_some hd509
                  refine AO.gp rfl rfl rfl (s_indexAr (q := x323.toNat) Try.underlying54 Try.sizeOf2 rfl rfl k510 (z1 _)) ?_
                  refine AO.gc rfl rfl rfl (s_load Try.isAgg2 rfl (row_cell (S445.get (k := 0) rfl) (ints_get (lt_len h_a1 (inR_lt k510))))) ?_
                  refine AO.gp rfl rfl rfl (p_move rfl) ?_
                  obtain ⟨k512, hd513⟩ := chk_some hd511
                  refine AO.gp rfl rfl rfl (p_subE rfl rfl k512) ?_
                  obtain ⟨b514, h515, hd516⟩ := bnd_some hd513
                  refine AO.gc rfl rfl rfl (o_call (vs := [.int .i64 (rd a1 x323.toNat), .int .i64 0, .int .i64 (a0 - 1)]) rfl Try.call50 (W_spec_l01In fu G446 (rd a1 x323.toNat) 0 (a0 - 1) b514 h515)) ?_
                  refine AO.gp rfl rfl rfl (p_not rfl) ?_
                  refine AO.gp rfl rfl rfl (p_move rfl) ?_
                  refine AO.cases (d := 34) rfl (fun c518 => ?_) (fun c518 => ?_)
                  · have hd519 := bif_t c518 hd516
                    refine AO.gn rfl rfl rfl ?_
                    refine AO.gn rfl rfl rfl ?_
                    refine AO.gn rfl rfl rfl ?_
                    refine AO.gn rfl rfl rfl ?_
                    refine AO.gn rfl rfl rfl ?_
                    refine AO.gn rfl rfl rfl ?_
                    refine AO.gn rfl rfl rfl ?_
                    refine AO.gp rfl rfl rfl (p_pickT rfl rfl) ?_
                    refine AO.gp rfl rfl rfl (p_pickT rfl rfl) ?_
                    refine AO.p rfl (p_pickF rfl rfl) ?_
                    refine AO.nil ?_
                    have S520 := S445.front 0 rfl
                    exact ⟨true, (some_inj hd519), S520, Sub.cons' rfl rfl (Sub.cons' rfl rfl (Sub.cons' rfl rfl (Sub.cons' rfl rfl (Sub.nil _))))⟩
                  · have hd521 := bif_f c518 hd516
                    refine AO.gp rfl rfl rfl (p_move rfl) ?_
                    obtain ⟨k522, hd523⟩ := chk_some hd521
                    refine AO.gp rfl rfl rfl (s_indexAr (q := x323.toNat) Try.underlying54 Try.sizeOf2 rfl rfl k522 (z1 _)) ?_
                    refine AO.gc rfl rfl rfl (s_load Try.isAgg2 rfl (row_cell (S445.get (k := 0) rfl) (ints_get (lt_len h_a1 (inR_lt k522))))) ?_
                    obtain ⟨k524, hd525⟩ := chk_some hd523
                    refine AO.gp rfl rfl rfl (s_indexAr (q := (rd a1 x323.toNat).toNat) Try.underlying54 Try.sizeOf2 rfl rfl k524 (z1 _)) ?_
                    refine AO.gc rfl rfl rfl (s_load Try.isAgg2 rfl (row_cell (S445.get (k := 0) rfl) (ints_get (lt_len h_a1 (inR_lt k524))))) ?_
                    refine AO.gp rfl rfl rfl (p_move rfl) ?_
                    refine AO.gp rfl rfl rfl (p_neq rfl rfl) ?_
                    refine AO.gp rfl rfl rfl (p_pickF rfl rfl) ?_
                    refine AO.gp rfl rfl rfl (p_pickT rfl rfl) ?_
                    refine AO.p rfl (p_pickF rfl rfl) ?_
                    refine AO.nil ?_
                    have S526 := S445.front 0 rfl
                    exact ⟨(!decide (rd a1 ((rd a1 x323.toNat).toNat) = x323)), (some_inj hd525), S526, Sub.cons' rfl rfl (Sub.cons' rfl rfl (Sub.cons' rfl rfl (Sub.cons' rfl rfl (Sub.nil _))))⟩
                · have hd527 := bif_f c508 hd507
                  refine AO.gn rfl rfl rfl ?_
                  refine AO.gn rfl rfl rfl ?_
                  refine AO.gn rfl rfl rfl ?_
                  refine AO.gn rfl rfl rfl ?_
                  refine AO.gn rfl rfl rfl ?_
                  refine AO.gn rfl rfl rfl ?_
                  refine AO.gn rfl rfl rfl ?_
                  refine AO.gn rfl rfl rfl ?_
                  refine AO.gu rfl rfl rfl ?_
                  refine AO.gu rfl rfl rfl ?_
                  refine AO.gu rfl rfl rfl ?_
                  refine AO.gu rfl rfl rfl ?_
                  refine AO.gu rfl rfl rfl ?_
                  refine AO.gu rfl rfl rfl ?_
                  refine AO.gu rfl rfl rfl ?_
                  refine AO.gn rfl rfl rfl ?_
                  refine AO.gp rfl rfl rfl (p_pickF rfl rfl) ?_
                  refine AO.p rfl (p_pickF rfl rfl) ?_
                  refine AO.nil ?_
                  have S528 := S445.front 0 rfl
                  exact ⟨false, (some_inj hd527), S528, Sub.cons' rfl rfl (Sub.cons' rfl rfl (Sub.cons' rfl rfl (Sub.cons' rfl rfl (Sub.nil _))))⟩
            · have hd529 := bif_f c500 hb498
              refine AO.gn rfl rfl rfl ?_
              refine AO.gn rfl rfl rfl ?_
              refine AO.gn rfl rfl rfl ?_
              refine AO.gn rfl rfl rfl ?_
              refine AO.p rfl (p_pickF rfl rfl) ?_
              refine AO.p rfl (p_move rfl) ?_
              refine AO.gp rfl rfl rfl (p_move rfl) ?_
              refine AO.gp rfl rfl rfl (p_move rfl) ?_
              refine AO.gp rfl rfl rfl (p_lss rfl rfl) ?_
              refine AO.gp rfl rfl rfl (p_move rfl) ?_
              refine AO.cases (d := 26) rfl (fun c530 => ?_) (fun c530 => ?_)
              · have hd531 := bif_t c530 hd529
                refine AO.gp rfl rfl rfl (p_move rfl) ?_
                obtain ⟨k532, hd533⟩ := chk_some hd531
                refine AO.gp rfl rfl rfl (s_indexAr (q := x323.toNat) Try.underlying54 Try.sizeOf2 rfl rfl k532 (z1 _)) ?_
                refine AO.gc rfl rfl rfl (s_load Try.isAgg2 rfl (row_cell (S445.get (k := 0) rfl) (ints_get (lt_len h_a1 (inR_lt k532))))) ?_
                refine AO.gp rfl rfl rfl (p_move rfl) ?_
                obtain ⟨k534, hd535⟩ := chk_some hd533
                refine AO.gp rfl rfl rfl (p_subE rfl rfl k534) ?_
                obtain ⟨b536, h537, hd538⟩ := bnd_some hd535
                refine AO.gc rfl rfl rfl (o_call (vs := [.int .i64 (rd a1 x323.toNat), .int .i64 0, .int .i64 (a0 - 1)]) rfl Try.call50 (W_spec_l01In fu G446 (rd a1 x323.toNat) 0 (a0 - 1) b536 h537)) ?_
                refine AO.gp rfl rfl rfl (p_not rfl) ?_
                refine AO.gp rfl rfl rfl (p_move rfl) ?_
                refine AO.cases (d := 34) rfl (fun c540 => ?_) (fun c540 => ?_)
                · have hd541 := bif_t c540 hd538
                  refine AO.gn rfl rfl rfl ?_
                  refine AO.gn rfl rfl rfl ?_
                  refine AO.gn rfl rfl rfl ?_
                  refine AO.gn rfl rfl rfl ?_
                  refine AO.gn rfl rfl rfl ?_
                  refine AO.gn rfl rfl rfl ?_
                  refine AO.gn rfl rfl rfl ?_
                  refine AO.gp rfl rfl rfl (p_pickT rfl rfl) ?_
                  refine AO.gp rfl rfl rfl (p_pickT rfl rfl) ?_
                  refine AO.p rfl (p_pickF rfl rfl) ?_
                  refine AO.nil ?_
                  have S542 := S445.front 0 rfl
                  exact ⟨true, (some_inj hd541), S542, Sub.cons' rfl rfl (Sub.cons' rfl rfl (Sub.cons' rfl rfl (Sub.cons' rfl rfl (Sub.nil _))))⟩
                · have hd543 := bif_f c540 hd538
                  refine AO.gp rfl rfl rfl (p_move rfl) ?_
                  obtain ⟨k544, hd545⟩ := chk_some hd543
                  refine AO.gp rfl rfl rfl (s_indexAr (q := x323.toNat) Try.underlying54 Try.sizeOf2 rfl rfl k544 (z1 _)) ?_
                  refine AO.gc rfl rfl rfl (s_load Try.isAgg2 rfl (row_cell (S445.get (k := 0) rfl) (ints_get (lt_len h_a1 (inR_lt k544))))) ?_
                  obtain ⟨k546, hd547⟩ := chk_some hd545
                  refine AO.gp rfl rfl rfl (s_indexAr (q := (rd a1 x323.toNat).toNat) Try.underlying54 Try.sizeOf2 rfl rfl k546 (z1 _)) ?_
                  refine AO.gc rfl rfl rfl (s_load Try.isAgg2 rfl (row_cell (S445.get (k := 0) rfl) (ints_get (lt_len h_a1 (inR_lt k546))))) ?_
                  refine AO.gp rfl rfl rfl (p_move rfl) ?_
                  refine AO.gp rfl rfl rfl (p_neq rfl rfl) ?_
                  refine AO.gp rfl rfl rfl (p_pickF rfl rfl) ?_
                  refine AO.gp rfl rfl rfl (p_pickT rfl rfl) ?_
                  refine AO.p rfl (p_pickF rfl rfl) ?_
                  refine AO.nil ?_
                  have S548 := S445.front 0 rfl
                  exact ⟨(!decide (rd a1 ((rd a1 x323.toNat).toNat) = x323)), (some_inj hd547), S548, Sub.cons' rfl rfl (Sub.cons' rfl rfl (Sub.cons' rfl rfl (Sub.cons' rfl rfl (Sub.nil _))))⟩
              · have hd549 := bif_f c530 hd529
                refine AO.gn rfl rfl rfl ?_
                refine AO.gn rfl rfl rfl ?_
                refine AO.gn rfl rfl rfl ?_
                refine AO.gn rfl rfl rfl ?_
                refine AO.gn rfl rfl rfl ?_
                refine AO.gn rfl rfl rfl ?_
                refine AO.gn rfl rfl rfl ?_
                refine AO.gn rfl rfl rfl ?_
                refine AO.gu rfl rfl rfl ?_
                refine AO.gu rfl rfl rfl ?_
                refine AO.gu rfl rfl rfl ?_
                refine AO.gu rfl rfl rfl ?_
                refine AO.gu rfl rfl rfl ?_
                refine AO.gu rfl rfl rfl ?_
                refine AO.gu rfl rfl rfl ?_
                refine AO.gn rfl rfl rfl ?_
                refine AO.gp rfl rfl rfl (p_pickF rfl rfl) ?_
                refine AO.p rfl (p_pickF rfl rfl) ?_
                refine AO.nil ?_
                have S550 := S445.front 0 rfl
                exact ⟨false, (some_inj hd549), S550, Sub.cons' rfl rfl (Sub.cons' rfl rfl (Sub.cons' rfl rfl (Sub.cons' rfl rfl (Sub.nil _))))⟩
          · rintro t' G552 ⟨b496, rfl, S551, hsub553⟩
            refine AX.sub hsub553 ?_
            refine AX.cond rfl (fun c554 => ?_) (fun c554 => ?_)
            · have hd555 := bif_t c554 hd499
              refine AX.seq ?_
              refine AX.region ?_
              refine AO.p rfl (p_assign rfl) ?_
              refine AO.nil ?_
              refine AX.ret ?_
              obtain rfl := some_inj hd555
              have z556 : _ = r438 := hk444
              subst z556
              obtain rfl := some_inj hd440
              exact ⟨.inr rfl, _, res1 rfl (rv_tmp rfl), rfl, (flatB_ok rfl), S551.hold⟩
            · have hd557 := bif_f c554 hd499
              refine AX.skip ?_
              refine AX.region ?_
              refine AO.p rfl (p_move rfl) ?_
              obtain ⟨k558, hd559⟩ := chk_some hd557
              refine AO.p rfl (p_addE rfl rfl k558) ?_
              refine AO.p rfl (p_assign rfl) ?_
              refine AO.nil ?_
              obtain rfl := some_inj hd559
              have S561 := S551.front 0 rfl
              exact ⟨x323 + 1, hk444, (x323 + 1), rfl, S561, Sub.cons' rfl rfl (Sub.cons' rfl rfl (Sub.cons' rfl rfl (Sub.nil _)))⟩
        · have hd562 := bif_f c449 ho443
          refine AX.exit ?_
          obtain rfl := some_inj hd562
          have S563 := S445.keep 0
          exact ⟨hk444, S563, Sub.nil _⟩
    · rintro t' G565 ⟨rfl, S564, hsub566⟩
      refine ⟨_, hsub566, ?_⟩
      refine AX.seq ?_
      refine AX.region ?_
      refine AO.p rfl (p_assign rfl) ?_
      refine AO.nil ?_
      refine AX.ret ?_
      obtain rfl := some_inj hd440
      exact ⟨.inr rfl, _, res1 rfl (rv_tmp rfl), rfl, (flatB_ok rfl), S564.hold⟩

set_option maxHeartbeats 4000000 in
theorem W_spec_l01Is (fu : Nat) (H : AHeap) (a0_0 : Int) (p_a0_1 : Option Addr) (c_a0_1 : Nat) (a0_1 : List (List Int)) (a_a0_1 : All 14 a0_1) (v_a0_1 : Vw H p_a0_1 a0_1.length c_a0_1 (ints a0_1.flatten)) (r0 : Bool) (hd : D_spec_l01Is fu a0_0 a0_1 = some r0) : ACall Try.prog 63 [.agg [.int .i64 a0_0, .slice p_a0_1 a0_1.length c_a0_1].toArray] H (.bool r0) H := by
  refine ACall.bodyP (N := 30) [(0, .agg [.int .i64 a0_0, .slice p_a0_1 a0_1.length c_a0_1].toArray)] Try.func63 rfl rfl rfl rfl ?_
  unfold D_spec_l01Is at hd
  have S0 : St [] H H [] := St.nil H
  refine AX.seq ?_
  refine AX.region ?_
  obtain ⟨G100, i101, hii101, hHG100, S102⟩ := S0.new (AObj.row false ([.int .i64 a0_0, .slice p_a0_1 a0_1.length c_a0_1]))
  refine AO.c rfl (s_box (i := i101) (cs := [.int .i64 a0_0, .slice p_a0_1 a0_1.length c_a0_1]) rfl hii101 rfl hHG100) ?_
  refine AO.p rfl (p_assign rfl) ?_
  refine AO.nil ?_
  refine AX.seq ?_
  obtain ⟨r113, hb114, hd115⟩ := bnd_some hd
  refine AX.cut (fun t' H' => ∃ (b112 : Bool), b112 = r113 ∧ St [] H H' [[(i101, AObj.row false ([.int .i64 a0_0, .slice p_a0_1 a0_1.length c_a0_1]))]] ∧ Am.Sub [(1, .pointer (some ⟨i101, 0, none⟩)), (13, .bool b112)] t') ?_ ?_
  · skip
    refine AX.region ?_
    refine AO.p rfl (s_fieldAddr Try.underlying37 rfl Try.sizeOf2 (by decide) rfl rfl) ?_
    refine AO.c rfl (s_load Try.isAgg2 rfl (row_cell (S102.get (k := 0) rfl) rfl)) ?_
    obtain ⟨b116, h117, hd118⟩ := bnd_some hb114
    refine AO.c rfl (o_call (vs := [.int .i64 a0_0, .int .i64 2, .int .i64 14]) rfl Try.call50 (W_spec_l01In fu G100 a0_0 2 14 b116 h117)) ?_
    refine AO.p rfl (p_not rfl) ?_
    refine AO.p rfl (p_move rfl) ?_
    refine AO.cases (d := 8) rfl (fun c120 => ?_) (fun c120 => ?_)
    · have hd121 := bif_t c120 hd118
      refine AO.gn rfl rfl rfl ?_
      refine AO.gn rfl rfl rfl ?_
      refine AO.gn rfl rfl rfl ?_
      refine AO.gn rfl rfl rfl ?_
      refine AO.p rfl (p_pickT rfl rfl) ?_
      refine AO.nil ?_
      have S122 := S102.front 0 rfl
      exact ⟨true, (some_inj hd121), S122, Sub.cons' rfl rfl (Sub.cons' rfl rfl (Sub.nil _))⟩
    · have hd123 := bif_f c120 hd118
      refine AO.gp rfl rfl rfl (s_fieldAddr Try.underlying37 rfl Try.sizeOf35 (by decide) rfl rfl) ?_
      refine AO.gc rfl rfl rfl (s_load Try.isAgg35 rfl (row_cell (S102.get (k := 0) rfl) rfl)) ?_
      refine AO.gp rfl rfl rfl (p_len_slice rfl Try.underlying35) ?_
      refine AO.gp rfl rfl rfl (p_gtr rfl rfl) ?_
      refine AO.p rfl (p_pickF rfl rfl) ?_
      refine AO.nil ?_
      have S124 := S102.front 0 rfl
      exact ⟨(decide (40 < ((a0_1.length : Nat) : Int))), (some_inj hd123), S124, Sub.cons' rfl rfl (Sub.cons' rfl rfl (Sub.nil _))⟩
  · rintro t' G126 ⟨b112, rfl, S125, hsub127⟩
    refine AX.sub hsub127 ?_
    refine AX.cond rfl (fun c128 => ?_) (fun c128 => ?_)
    · have hd129 := bif_t c128 hd115
      refine AX.seq ?_
      refine AX.region ?_
      refine AO.p rfl (p_assign rfl) ?_
      refine AO.nil ?_
      refine AX.ret ?_
      obtain rfl := some_inj hd129
      exact ⟨.inr rfl, _, res1 rfl (rv_tmp rfl), rfl, (flatB_ok rfl), S125.hold⟩
    · have hd130 := bif_f c128 hd115
      refine AX.skip ?_
      refine AX.seq ?_
      refine AX.seq ?_
      refine AX.region ?_
      refine AO.p rfl (p_assign rfl) ?_
      refine AO.nil ?_
      obtain ⟨r187, hl188, hd189⟩ := bnd_some hd130
      refine AX.cutS (fun t' H' => .inl () = r187 ∧ St [] H H' [] ∧ Am.Sub [] t') ?_ ?_
      · refine AX.block ?_
        refine AX.loopF (fun s' t' H' => ∃ (x169 : Int), x169 = s' ∧ St [] H H' [[(i101, AObj.row false ([.int .i64 a0_0, .slice p_a0_1 a0_1.length c_a0_1]))]] ∧ Am.Sub [(1, .pointer (some ⟨i101, 0, none⟩)), (3, .int .i64 x169)] t') hl188 ?_ ?_
        · skip
          have S190 := S125.front 0 rfl
          exact ⟨0, rfl, S190, Sub.cons' rfl rfl (Sub.cons' rfl rfl (Sub.nil _))⟩
        · rintro n191 _ t' G195 ⟨x169, rfl, S194, hsub196⟩ o197 ho192 hk193
          refine AX.sub hsub196 ?_
          unfold D_spec_l01Is_s0 at ho192
          refine AX.seq ?_
          refine AX.seq ?_
          refine AX.region ?_
          refine AO.p rfl (p_move rfl) ?_
          refine AO.p rfl (s_fieldAddr Try.underlying37 rfl Try.sizeOf35 (by decide) rfl rfl) ?_
          refine AO.c rfl (s_load Try.isAgg35 rfl (row_cell (S194.get (k := 0) rfl) rfl)) ?_
          refine AO.p rfl (p_len_slice rfl Try.underlying35) ?_
          refine AO.p rfl (p_lss rfl rfl) ?_
          refine AO.nil ?_
          refine AX.cond rfl (fun c198 => ?_) (fun c198 => ?_)
          · have hd199 := bif_t c198 ho192
            refine AX.skip ?_
            refine AX.seq ?_
            refine AX.block ?_
            refine AX.seq ?_
            refine DR.startS [false, false, false, false, false, false, false, true, false] mix (by kernel_rfl) (fun hst => ?_)
            refine DR.p rfl rfl (s_fieldAddr Try.underlying37 rfl Try.sizeOf2 (by decide) rfl rfl) ?_
            refine DR.r rfl rfl (r_load rfl Try.isAgg2) (one_read (row_cell (S194.get (k := 0) rfl) rfl) (.of_flat0 rfl)) ?_
            refine DR.p rfl rfl (s_fieldAddr Try.underlying37 rfl Try.sizeOf35 (by decide) rfl rfl) ?_
            refine DR.r rfl rfl (r_load rfl Try.isAgg35) (one_read (row_cell (S194.get (k := 0) rfl) rfl) (S194.view v_a0_1).inn.bel) ?_
            refine DR.p rfl rfl (p_move rfl) ?_
            obtain ⟨k200, hd201⟩ := chk_some hd199
            refine DR.p rfl rfl (s_indexV (q := off p_a0_1 + x169.toNat * 14) Try.underlying35 Try.sizeOf54 rfl ((S194.view v_a0_1).rowne a_a0_1 (by decide) (lt_len rfl (inR_lt k200))) rfl k200 rfl) ?_
            refine DR.r rfl rfl (r_loadN (vs := ints (rw_ a0_1 x169.toNat)) rfl Try.isAgg54 Try.sizeOf54 (ints_len (rw_len a_a0_1 (lt_len rfl (inR_lt k200))))) (many_row ((S194.view v_a0_1).row a_a0_1 (lt_len rfl (inR_lt k200))) bel_ints) ?_
            obtain ⟨b202, h203, hd204⟩ := bnd_some hd201
            refine DR.w rfl rfl (o_call (vs := [.int .i64 a0_0, .agg (ints (rw_ a0_1 x169.toNat)).toArray]) rfl Try.call118 (W_spec_l01Round fu G195 a0_0 (rw_ a0_1 x169.toNat) (rw_len a_a0_1 (lt_len rfl (inR_lt k200))) b202 h203)) (Nat.le_refl _) ?_
            refine DR.p rfl rfl (p_not rfl) ?_
            refine DR.nil 9 [] hst (by kernel_rfl) trivial ?_
            refine AX.cond rfl (fun c206 => ?_) (fun c206 => ?_)
            · have hd207 := bif_t c206 hd204
              refine AX.seq ?_
              refine AX.region ?_
              refine AO.p rfl (p_assign rfl) ?_
              refine AO.nil ?_
              refine AX.ret ?_
              obtain rfl := some_inj hd207
              have z208 : _ = r187 := hk193
              subst z208
              obtain rfl := some_inj hd189
              exact ⟨.inr rfl, _, res1 rfl (rv_tmp rfl), rfl, (flatB_ok rfl), S194.hold⟩
            · have hd209 := bif_f c206 hd204
              refine AX.skip ?_
              refine AX.region ?_
              refine AO.p rfl (p_move rfl) ?_
              obtain ⟨k210, hd211⟩ := chk_some hd209
              refine AO.p rfl (p_addE rfl rfl k210) ?_
              refine AO.p rfl (p_assign rfl) ?_
              refine AO.nil ?_
              obtain rfl := some_inj hd211
              have S213 := S194.front 0 rfl
              exact ⟨x169 + 1, hk193, (x169 + 1), rfl, S213, Sub.cons' rfl rfl (Sub.cons' rfl rfl (Sub.nil _))⟩
          · have hd214 := bif_f c198 ho192
            refine AX.exit ?_
            obtain rfl := some_inj hd214
            have S215 := S194.keep 0
            exact ⟨hk193, S215, Sub.nil _⟩
      · rintro t' G217 ⟨rfl, S216, hsub218⟩
        refine ⟨_, hsub218, ?_⟩
        refine AX.seq ?_
        refine AX.region ?_
        refine AO.p rfl (p_assign rfl) ?_
        refine AO.nil ?_
        refine AX.ret ?_
        obtain rfl := some_inj hd189
        exact ⟨.inr rfl, _, res1 rfl (rv_tmp rfl), rfl, (flatB_ok rfl), S216.hold⟩

set_option maxHeartbeats 4000000 in
theorem W_spec_l01Pairs (fu : Nat) (H : AHeap) (a0 : Int) (a1 : List Int) (h_a1 : a1.length = 14) (r0 : List (List Int)) (hd : D_spec_l01Pairs fu a0 a1 = some r0) : ∃ v G', ACall Try.prog 64 [.int .i64 a0, .agg (ints a1).toArray] H v G' ∧ ∃ (p_r0 : Option Addr) (c_r0 : Nat) (T_r0 : Tb), (v = .slice p_r0 r0.length c_r0) ∧ St [] H G' [oseg p_r0 (tcells T_r0), tseg T_r0] ∧ Sb p_r0 r0.length c_r0 1 ∧ trows T_r0 = r0 ∧ TSb T_r0 := by
  refine ACall.bodyX (args := [.int .i64 a0, .agg (ints a1).toArray]) (N := 27) [(0, .int .i64 a0), (1, .agg (ints a1).toArray)] (fun v G' => ∃ (p_r0 : Option Addr) (c_r0 : Nat) (T_r0 : Tb), (v = .slice p_r0 r0.length c_r0) ∧ St [] H G' [oseg p_r0 (tcells T_r0), tseg T_r0] ∧ Sb p_r0 r0.length c_r0 1 ∧ trows T_r0 = r0 ∧ TSb T_r0) Try.func64 rfl rfl rfl rfl ?_
  unfold D_spec_l01Pairs at hd
  have S0 : St [] H H [] := St.nil H
  refine AX.seq ?_
  refine AX.region ?_
  obtain ⟨G100, i101, hii101, hHG100, S102⟩ := S0.new (AObj.row false (ints a1))
  refine AO.c rfl (s_box (i := i101) (cs := ints a1) rfl hii101 rfl hHG100) ?_
  refine AO.p rfl (p_assign rfl) ?_
  refine AO.nil ?_
  refine AX.seq ?_
  refine AX.region ?_
  obtain ⟨G104, i105, hii105, hHG104, S106⟩ := S102.new (AObj.row false (tcells []))
  have S106t := S106.nilseg 1
  refine AO.c rfl (s_build0 (i := i105) Try.underlying43 Try.sizeOf58 hii105 hHG104) ?_
  refine AO.p rfl (p_assign rfl) ?_
  refine AO.nil ?_
  refine AX.seq ?_
  refine AX.seq ?_
  refine AX.region ?_
  refine AO.p rfl (p_assign rfl) ?_
  refine AO.nil ?_
  obtain ⟨r233, hl234, hd235⟩ := bnd_some hd
  refine AX.cutS (fun t' H' => ∃ (rs231 : List (List Int)) (p229 : Option Addr) (c230 : Nat) (T232 : Tb), rs231 = r233 ∧ St [] H H' [oseg p229 (tcells T232), tseg T232] ∧ trows T232 = rs231 ∧ TSb T232 ∧ Sb p229 (rs231.length) c230 1 ∧ Am.Sub [(5, .slice p229 rs231.length c230)] t') ?_ ?_
  · refine AX.block ?_
    refine AX.loopF (fun s' t' H' => ∃ (rs189 : List (List Int)) (x191 : Int) (p187 : Option Addr) (c188 : Nat) (T190 : Tb), (rs189, x191) = s' ∧ St [] H H' [[(i101, AObj.row false (ints a1))], oseg p187 (tcells T190), tseg T190] ∧ trows T190 = rs189 ∧ TSb T190 ∧ Sb p187 (rs189.length) c188 1 ∧ Am.Sub [(0, .int .i64 a0), (3, .pointer (some ⟨i101, 0, none⟩)), (5, .slice p187 rs189.length c188), (6, .int .i64 x191)] t') hl234 ?_ ?_
    · skip
      have S236 := S106t.front 1 rfl
      have S237 := S236.front 1 rfl
      have S238 := S237.front 2 rfl
      exact ⟨[], 0, (some (Addr.mk i105 0 none)), 0, [], rfl, S238, rfl, TSb.nil, (Sb.lit (n := 0) (by decide)), Sub.cons' rfl rfl (Sub.cons' rfl rfl (Sub.cons' rfl rfl (Sub.cons' rfl rfl (Sub.nil _))))⟩
    · rintro n239 _ t' G243 ⟨rs189, x191, p187, c188, T190, rfl, S242, tT190, sT190, Bo186, hsub244⟩ o245 ho240 hk241
      refine AX.sub hsub244 ?_
      unfold D_spec_l01Pairs_s0 at ho240
      refine AX.seq ?_
      refine AX.seq ?_
      refine AX.region ?_
      refine AO.p rfl (p_move rfl) ?_
      refine AO.p rfl (p_move rfl) ?_
      refine AO.p rfl (p_lss rfl rfl) ?_
      refine AO.nil ?_
      refine AX.cond rfl (fun c246 => ?_) (fun c246 => ?_)
      · have hd247 := bif_t c246 ho240
        refine AX.skip ?_
        refine AX.seq ?_
        refine AX.block ?_
        refine AX.seq ?_
        refine AX.region ?_
        refine AO.p rfl (p_move rfl) ?_
        refine AO.p rfl (p_move rfl) ?_
        obtain ⟨k248, hd249⟩ := chk_some hd247
        refine AO.p rfl (s_indexAr (q := x191.toNat) Try.underlying54 Try.sizeOf2 rfl rfl k248 (z1 _)) ?_
        refine AO.c rfl (s_load Try.isAgg2 rfl (row_cell (S242.get (k := 0) rfl) (ints_get (lt_len h_a1 (inR_lt k248))))) ?_
        refine AO.p rfl (p_lss rfl rfl) ?_
        refine AO.nil ?_
        refine AX.cond rfl (fun c250 => ?_) (fun c250 => ?_)
        · have hd251 := bif_t c250 hd249
          refine AX.region ?_
          refine AO.p rfl (p_move rfl) ?_
          refine AO.p rfl (p_move rfl) ?_
          refine AO.p rfl (p_move rfl) ?_
          obtain ⟨k252, hd253⟩ := chk_some hd251
          refine AO.p rfl (s_indexAr (q := x191.toNat) Try.underlying54 Try.sizeOf2 rfl rfl k252 (z1 _)) ?_
          refine AO.c rfl (s_load Try.isAgg2 rfl (row_cell (S242.get (k := 0) rfl) (ints_get (lt_len h_a1 (inR_lt k252))))) ?_
          obtain ⟨G254, i255, hii255, hHG254, S256⟩ := S242.new (AObj.row false (ints [x191, rd a1 x191.toNat]))
          refine AO.c rfl (s_buildInts (i := i255) (vs := [(0, .int .i64 x191), (1, .int .i64 (rd a1 x191.toNat))]) (xs := [x191, rd a1 x191.toNat]) Try.underlying58 Try.sizeOf2 Try.zeroValue2 rfl rfl (by decide) rfl rfl hii255 hHG254) ?_
          obtain ⟨G258, i259, hii259, hHG258, S260⟩ := S256.new (AObj.row false (tcells ([((some (Addr.mk i255 0 none)), 2, [x191, rd a1 x191.toNat])])))
          have S262 := (S260.front 1 rfl).tone (some (Addr.mk i255 0 none)) 2 [x191, rd a1 x191.toNat] rfl
          refine AO.c rfl (s_buildT1 (i := i259) (X := [((some (Addr.mk i255 0 none)), 2, [x191, rd a1 x191.toNat])]) (n := 2) rfl Try.underlying43 Try.sizeOf58 Try.zeroValue58 rfl rfl hii259 hHG258) ?_
          obtain ⟨k263, hd264⟩ := chk_some hd253
          obtain ⟨p265, c266, G267, haG267, S268, Bp265⟩ := S262.app (k := 3) rfl Bo186 (tcells ([((some (Addr.mk i255 0 none)), 2, [x191, rd a1 x191.toNat])])) 1 (tc_len1 rfl rfl)
          have S269 := S268.cellsEq (k := 3) (us' := tcells (T190 ++ [((some (Addr.mk i255 0 none)), 2, [x191, rd a1 x191.toNat])])) (tcells_app _ _).symm rfl
          have BS269 : Sb p265 ((rs189 ++ [[x191, rd a1 x191.toNat]]).length) c266 1 := (show rs189.length + 1 = (rs189 ++ [[x191, rd a1 x191.toNat]]).length from len_app (a := rs189) (b := [[x191, rd a1 x191.toNat]]) rfl rfl) ▸ Bp265
          have S270 := S269.front 0 rfl
          have S271 := (S270.front 4 rfl).tmerge
          have S272 := S271.drop 1 rfl
          refine AO.c rfl (s_app (by_ := 24) (us := tcells T190) (vs := tcells ([((some (Addr.mk i255 0 none)), 2, [x191, rd a1 x191.toNat])])) Try.underlying43 Try.underlying43 Try.typeInfo58 Try.sizeOf58 Try.zeroValue58 rfl rfl rfl rfl rfl rfl rfl (S262.buf (k := 3) rfl Bo186 (tc_len1 tT190 rfl)) (S262.oview (k := 1) rfl (Sb.lit (n := 1) (by decide)) (tc_len1 rfl rfl)) (tc_len1 rfl rfl) tcells_one k263 haG267 (show rs189.length + 1 = (rs189 ++ [[x191, rd a1 x191.toNat]]).length from len_app (a := rs189) (b := [[x191, rd a1 x191.toNat]]) rfl rfl)) ?_
          refine AO.p rfl (p_assign rfl) ?_
          refine AO.nil ?_
          refine AX.region ?_
          refine AO.p rfl (p_move rfl) ?_
          obtain ⟨k273, hd274⟩ := chk_some hd264
          refine AO.p rfl (p_addE rfl rfl k273) ?_
          refine AO.p rfl (p_assign rfl) ?_
          refine AO.nil ?_
          obtain rfl := some_inj hd274
          have S276 := S272.front 0 rfl
          have S277 := S276.front 2 rfl
          have S278 := S277.front 2 rfl
          exact ⟨((rs189 ++ [[x191, rd a1 x191.toNat]]), x191 + 1), hk241, (rs189 ++ [[x191, rd a1 x191.toNat]]), (x191 + 1), p265, c266, (T190 ++ [((some (Addr.mk i255 0 none)), 2, [x191, rd a1 x191.toNat])]), rfl, S278, (trows_apps tT190 rfl), (TSb.app sT190 (TSb.one (sb_len rfl (Sb.lit (n := 2) (by decide))))), BS269, Sub.cons' rfl rfl (Sub.cons' rfl rfl (Sub.cons' rfl rfl (Sub.cons' rfl rfl (Sub.nil _))))⟩
        · have hd279 := bif_f c250 hd249
          refine AX.skip ?_
          refine AX.region ?_
          refine AO.p rfl (p_move rfl) ?_
          obtain ⟨k280, hd281⟩ := chk_some hd279
          refine AO.p rfl (p_addE rfl rfl k280) ?_
          refine AO.p rfl (p_assign rfl) ?_
          refine AO.nil ?_
          obtain rfl := some_inj hd281
          have S283 := S242.front 2 rfl
          have S284 := S283.front 2 rfl
          have S285 := S284.front 2 rfl
          exact ⟨(rs189, x191 + 1), hk241, rs189, (x191 + 1), p187, c188, T190, rfl, S285, tT190, sT190, Bo186, Sub.cons' rfl rfl (Sub.cons' rfl rfl (Sub.cons' rfl rfl (Sub.cons' rfl rfl (Sub.nil _))))⟩
      · have hd286 := bif_f c246 ho240
        refine AX.exit ?_
        obtain rfl := some_inj hd286
        have S287 := S242.front 2 rfl
        have S288 := S287.front 2 rfl
        have S289 := S288.keep 2
        exact ⟨rs189, p187, c188, T190, hk241, S289, tT190, sT190, Bo186, Sub.cons' rfl rfl (Sub.nil _)⟩
  · rintro t' G291 ⟨rs231, p229, c230, T232, rfl, S290, tT232, sT232, Bo228, hsub292⟩
    refine ⟨_, hsub292, ?_⟩
    refine AX.seq ?_
    refine AX.region ?_
    refine AO.p rfl (p_move rfl) ?_
    refine AO.p rfl (p_assign rfl) ?_
    refine AO.nil ?_
    refine AX.ret ?_
    obtain rfl := some_inj hd235
    have S293 := S290.front 1 rfl
    have S294 := S293.front 1 rfl
    exact ⟨.inr rfl, _, res1 rfl (rv_tmp rfl), p229, c230, T232, rfl, S294, Bo228, tT232, sT232⟩

set_option maxHeartbeats 4000000 in
theorem W_spec_l05Rows (fu : Nat) (H : AHeap) (a0 : Int) (a1 : List Int) (h_a1 : a1.length = 14) (r0 : List (List Int)) (hd : D_spec_l05Rows fu a0 a1 = some r0) : ∃ v G', ACall Try.prog 65 [.int .i64 a0, .agg (ints a1).toArray] H v G' ∧ ∃ (p_r0 : Option Addr) (c_r0 : Nat) (T_r0 : Tb), (v = .slice p_r0 r0.length c_r0) ∧ St [] H G' [oseg p_r0 (tcells T_r0), tseg T_r0] ∧ Sb p_r0 r0.length c_r0 1 ∧ trows T_r0 = r0 ∧ TSb T_r0 := by
  refine ACall.bodyX (args := [.int .i64 a0, .agg (ints a1).toArray]) (N := 62) [(0, .int .i64 a0), (1, .agg (ints a1).toArray)] (fun v G' => ∃ (p_r0 : Option Addr) (c_r0 : Nat) (T_r0 : Tb), (v = .slice p_r0 r0.length c_r0) ∧ St [] H G' [oseg p_r0 (tcells T_r0), tseg T_r0] ∧ Sb p_r0 r0.length c_r0 1 ∧ trows T_r0 = r0 ∧ TSb T_r0) Try.func65 rfl rfl rfl rfl ?_
  unfold D_spec_l05Rows at hd
  have S0 : St [] H H [] := St.nil H
  refine AX.seq ?_
  refine AX.region ?_
  obtain ⟨G100, i101, hii101, hHG100, S102⟩ := S0.new (AObj.row false (ints a1))
  refine AO.c rfl (s_box (i := i101) (cs := ints a1) rfl hii101 rfl hHG100) ?_
  refine AO.p rfl (p_assign rfl) ?_
  refine AO.nil ?_
  refine AX.seq ?_
  refine AX.region ?_
  refine AO.p rfl (p_move rfl) ?_
  refine AO.c rfl (s_loadN (vs := ints a1) Try.isAgg54 Try.sizeOf54 rfl (ints_len h_a1) (row_cells (S102.get (k := 0) rfl))) ?_
  obtain ⟨rs104, h105, hd106⟩ := bnd_some hd
  obtain ⟨_, G115, hc114, p107, c108, T111, rfl, S116, B110, t112, s113⟩ := W_spec_l01Pairs fu G100 a0 a1 h_a1 rs104 h105
  have S117 := S102.call S116
  refine AO.c rfl (o_call (vs := [.int .i64 a0, .agg (ints a1).toArray]) rfl Try.call64 hc114) ?_
  obtain ⟨G118, i119, hii119, hHG118, S120⟩ := S117.new (AObj.row false (tcells []))
  have S120t := S120.nilseg 1
  refine AO.c rfl (s_build0 (i := i119) Try.underlying43 Try.sizeOf58 hii119 hHG118) ?_
  refine AO.p rfl (p_assign rfl) ?_
  refine AO.p rfl (p_assign rfl) ?_
  refine AO.nil ?_
  refine AX.seq ?_
  refine AX.seq ?_
  refine AX.region ?_
  refine AO.p rfl (p_assign rfl) ?_
  refine AO.nil ?_
  obtain ⟨r1046, hl1047, hd1048⟩ := bnd_some hd106
  refine AX.cutS (fun t' H' => ∃ (rs1044 : List (List Int)) (p1042 : Option Addr) (c1043 : Nat) (T1045 : Tb), rs1044 = r1046 ∧ St [] H H' [oseg p1042 (tcells T1045), tseg T1045] ∧ trows T1045 = rs1044 ∧ TSb T1045 ∧ Sb p1042 (rs1044.length) c1043 1 ∧ Am.Sub [(6, .slice p1042 rs1044.length c1043)] t') ?_ ?_
  · refine AX.block ?_
    refine AX.loopF (fun s' t' H' => ∃ (rs738 : List (List Int)) (x740 : Int) (p736 : Option Addr) (c737 : Nat) (T739 : Tb), (rs738, x740) = s' ∧ St [] H H' [[(i101, AObj.row false (ints a1))], oseg p107 (tcells T111), tseg T111, oseg p736 (tcells T739), tseg T739] ∧ trows T739 = rs738 ∧ TSb T739 ∧ Sb p736 (rs738.length) c737 1 ∧ Am.Sub [(0, .int .i64 a0), (3, .pointer (some ⟨i101, 0, none⟩)), (5, .slice p107 rs104.length c108), (6, .slice p736 rs738.length c737), (7, .int .i64 x740)] t') hl1047 ?_ ?_
    · skip
      have S1049 := S120t.front 1 rfl
      have S1050 := S1049.front 1 rfl
      have S1051 := S1050.front 3 rfl
      have S1052 := S1051.front 3 rfl
      have S1053 := S1052.front 4 rfl
      exact ⟨[], 0, (some (Addr.mk i119 0 none)), 0, [], rfl, S1053, rfl, TSb.nil, (Sb.lit (n := 0) (by decide)), Sub.cons' rfl rfl (Sub.cons' rfl rfl (Sub.cons' rfl rfl (Sub.cons' rfl rfl (Sub.cons' rfl rfl (Sub.nil _)))))⟩
    · rintro n1054 _ t' G1058 ⟨rs738, x740, p736, c737, T739, rfl, S1057, tT739, sT739, Bo735, hsub1059⟩ o1060 ho1055 hk1056
      refine AX.sub hsub1059 ?_
      unfold D_spec_l05Rows_s0 at ho1055
      refine AX.seq ?_
      refine AX.seq ?_
      refine AX.region ?_
      refine AO.p rfl (p_move rfl) ?_
      refine AO.p rfl (p_move rfl) ?_
      refine AO.p rfl (p_len_slice rfl Try.underlying43) ?_
      refine AO.p rfl (p_conv Try.underlying3 Try.underlying118 rfl rfl) ?_
      obtain ⟨k1061, hd1062⟩ := chk_some ho1055
      refine AO.p rfl (p_shlE rfl rfl k1061) ?_
      refine AO.p rfl (p_lss rfl rfl) ?_
      refine AO.nil ?_
      refine AX.cond rfl (fun c1063 => ?_) (fun c1063 => ?_)
      · have hd1064 := bif_t c1063 hd1062
        refine AX.skip ?_
        refine AX.seq ?_
        refine AX.block ?_
        refine AX.seq ?_
        refine AX.region ?_
        refine AO.p rfl (p_move rfl) ?_
        obtain ⟨k1065, hd1066⟩ := chk_some hd1064
        obtain ⟨G1067, i1068, hii1068, hHG1067, S1069⟩ := S1057.new (AObj.row false (ints (List.replicate a0.toNat 0)))
        refine AO.c rfl (s_makeIntsE (i := i1068) (by_ := 8) Try.underlying58 Try.typeInfo2 Try.sizeOf2 Try.zeroValue2 rfl rfl rfl rfl rfl k1065 hii1068 hHG1067) ?_
        refine AO.p rfl (p_assign rfl) ?_
        refine AO.nil ?_
        refine AX.seq ?_
        refine AX.seq ?_
        refine AX.region ?_
        refine AO.p rfl (p_assign rfl) ?_
        refine AO.nil ?_
        obtain ⟨r1147, hl1148, hd1149⟩ := bnd_some hd1066
        refine AX.cutS (fun t' H' => ∃ (xs1146 : List Int), xs1146 = r1147 ∧ St [] H H' [[(i101, AObj.row false (ints a1))], oseg p107 (tcells T111), tseg T111, oseg p736 (tcells T739), tseg T739, [(i1068, AObj.row false (ints xs1146))]] ∧ xs1146.length = a0.toNat ∧ Am.Sub [(0, .int .i64 a0), (3, .pointer (some ⟨i101, 0, none⟩)), (5, .slice p107 rs104.length c108), (6, .slice p736 rs738.length c737), (7, .int .i64 x740), (8, .slice (some (Addr.mk i1068 0 none)) a0.toNat a0.toNat)] t') ?_ ?_
        · refine AX.block ?_
          refine AX.loopF (fun s' t' H' => ∃ (xs1121 : List Int) (x1122 : Int), (xs1121, x1122) = s' ∧ St [] H H' [[(i101, AObj.row false (ints a1))], oseg p107 (tcells T111), tseg T111, oseg p736 (tcells T739), tseg T739, [(i1068, AObj.row false (ints xs1121))]] ∧ xs1121.length = a0.toNat ∧ Am.Sub [(0, .int .i64 a0), (3, .pointer (some ⟨i101, 0, none⟩)), (5, .slice p107 rs104.length c108), (6, .slice p736 rs738.length c737), (7, .int .i64 x740), (8, .slice (some (Addr.mk i1068 0 none)) a0.toNat a0.toNat), (9, .int .i64 x1122)] t') hl1148 ?_ ?_
          · skip
            have S1150 := S1069.front 0 rfl
            have S1151 := S1150.front 5 rfl
            have S1152 := S1151.front 5 rfl
            have S1153 := S1152.front 5 rfl
            have S1154 := S1153.front 5 rfl
            have S1155 := S1154.front 5 rfl
            exact ⟨(List.replicate a0.toNat 0), 0, rfl, S1155, len_rep, Sub.cons' rfl rfl (Sub.cons' rfl rfl (Sub.cons' rfl rfl (Sub.cons' rfl rfl (Sub.cons' rfl rfl (Sub.cons' rfl rfl (Sub.cons' rfl rfl (Sub.nil _)))))))⟩
          · rintro n1156 _ t' G1160 ⟨xs1121, x1122, rfl, S1159, lxs1121, hsub1161⟩ o1162 ho1157 hk1158
            refine AX.sub hsub1161 ?_
            unfold D_spec_l05Rows_s1 at ho1157
            refine AX.seq ?_
            refine AX.seq ?_
            refine AX.region ?_
            refine AO.p rfl (p_move rfl) ?_
            refine AO.p rfl (p_move rfl) ?_
            refine AO.p rfl (p_lss rfl rfl) ?_
            refine AO.nil ?_
            refine AX.cond rfl (fun c1163 => ?_) (fun c1163 => ?_)
            · have hd1164 := bif_t c1163 ho1157
              refine AX.skip ?_
              refine AX.seq ?_
              refine AX.block ?_
              refine AX.seq ?_
              refine AX.region ?_
              refine AO.p rfl (p_move rfl) ?_
              obtain ⟨k1165, hd1166⟩ := chk_some hd1164
              refine AO.p rfl (s_indexAr (q := x1122.toNat) Try.underlying54 Try.sizeOf2 rfl rfl k1165 (z1 _)) ?_
              refine AO.c rfl (s_load Try.isAgg2 rfl (row_cell (S1159.get (k := 0) rfl) (ints_get (lt_len h_a1 (inR_lt k1165))))) ?_
              refine AO.p rfl (p_move rfl) ?_
              refine AO.p rfl (p_eql rfl rfl) ?_
              refine AO.nil ?_
              refine AX.cond rfl (fun c1167 => ?_) (fun c1167 => ?_)
              · have hd1168 := bif_t c1167 hd1166
                refine AX.region ?_
                refine AO.p rfl (p_move rfl) ?_
                refine AO.p rfl (p_move rfl) ?_
                obtain ⟨k1169, hd1170⟩ := chk_some hd1168
                refine AO.p rfl (s_indexV (q := x1122.toNat) Try.underlying58 Try.sizeOf2 rfl rfl rfl k1169 (z1 _)) ?_
                obtain ⟨G1171, hHG1171, S1172⟩ := S1159.set (k := 5) (i := i1068) rfl (AObj.row false (ints (xs1121.set x1122.toNat (-1))))
                refine AO.s (s_store Try.sizeOf2 rfl rfl rfl (S1159.get (k := 5) rfl) (lt_len (ints_len lxs1121) (inR_lt k1169)) ((congrArg (fun l => List.set _ _ (AObj.row false l)) (ints_set _ _ _)).trans hHG1171)) ?_
                refine AO.nil ?_
                refine AX.region ?_
                refine AO.p rfl (p_move rfl) ?_
                obtain ⟨k1173, hd1174⟩ := chk_some hd1170
                refine AO.p rfl (p_addE rfl rfl k1173) ?_
                refine AO.p rfl (p_assign rfl) ?_
                refine AO.nil ?_
                obtain rfl := some_inj hd1174
                have S1176 := S1172.front 5 rfl
                have S1177 := S1176.front 5 rfl
                have S1178 := S1177.front 5 rfl
                have S1179 := S1178.front 5 rfl
                have S1180 := S1179.front 5 rfl
                have S1181 := S1180.front 5 rfl
                exact ⟨((xs1121.set x1122.toNat (-1)), x1122 + 1), hk1158, (xs1121.set x1122.toNat (-1)), (x1122 + 1), rfl, S1181, (len_set lxs1121), Sub.cons' rfl rfl (Sub.cons' rfl rfl (Sub.cons' rfl rfl (Sub.cons' rfl rfl (Sub.cons' rfl rfl (Sub.cons' rfl rfl (Sub.cons' rfl rfl (Sub.nil _)))))))⟩
              · have hd1182 := bif_f c1167 hd1166
                refine AX.skip ?_
                refine AX.region ?_
                refine AO.p rfl (p_move rfl) ?_
                obtain ⟨k1183, hd1184⟩ := chk_some hd1182
                refine AO.p rfl (p_addE rfl rfl k1183) ?_
                refine AO.p rfl (p_assign rfl) ?_
                refine AO.nil ?_
                obtain rfl := some_inj hd1184
                have S1186 := S1159.front 5 rfl
                have S1187 := S1186.front 5 rfl
                have S1188 := S1187.front 5 rfl
                have S1189 := S1188.front 5 rfl
                have S1190 := S1189.front 5 rfl
                have S1191 := S1190.front 5 rfl
                exact ⟨(xs1121, x1122 + 1), hk1158, xs1121, (x1122 + 1), rfl, S1191, lxs1121, Sub.cons' rfl rfl (Sub.cons' rfl rfl (Sub.cons' rfl rfl (Sub.cons' rfl rfl (Sub.cons' rfl rfl (Sub.cons' rfl rfl (Sub.cons' rfl rfl (Sub.nil _)))))))⟩
            · have hd1192 := bif_f c1163 ho1157
              refine AX.exit ?_
              obtain rfl := some_inj hd1192
              have S1193 := S1159.front 5 rfl
              have S1194 := S1193.front 5 rfl
              have S1195 := S1194.front 5 rfl
              have S1196 := S1195.front 5 rfl
              have S1197 := S1196.front 5 rfl
              have S1198 := S1197.front 5 rfl
              exact ⟨xs1121, hk1158, S1198, lxs1121, Sub.cons' rfl rfl (Sub.cons' rfl rfl (Sub.cons' rfl rfl (Sub.cons' rfl rfl (Sub.cons' rfl rfl (Sub.cons' rfl rfl (Sub.nil _))))))⟩
        · rintro t' G1200 ⟨xs1146, rfl, S1199, lxs1146, hsub1201⟩
          refine ⟨_, hsub1201, ?_⟩
          refine AX.seq ?_
          refine AX.seq ?_
          refine AX.region ?_
          refine AO.p rfl (p_assign rfl) ?_
          refine AO.nil ?_
          obtain ⟨r1289, hl1290, hd1291⟩ := bnd_some hd1149
          refine AX.cutS (fun t' H' => ∃ (xs1288 : List Int), xs1288 = r1289 ∧ St [] H H' [[(i101, AObj.row false (ints a1))], oseg p107 (tcells T111), tseg T111, oseg p736 (tcells T739), tseg T739, [(i1068, AObj.row false (ints xs1288))]] ∧ xs1288.length = a0.toNat ∧ Am.Sub [(0, .int .i64 a0), (3, .pointer (some ⟨i101, 0, none⟩)), (5, .slice p107 rs104.length c108), (6, .slice p736 rs738.length c737), (7, .int .i64 x740), (8, .slice (some (Addr.mk i1068 0 none)) a0.toNat a0.toNat)] t') ?_ ?_
          · refine AX.block ?_
            refine AX.loopF (fun s' t' H' => ∃ (xs1260 : List Int) (x1261 : Int), (xs1260, x1261) = s' ∧ St [] H H' [[(i101, AObj.row false (ints a1))], oseg p107 (tcells T111), tseg T111, oseg p736 (tcells T739), tseg T739, [(i1068, AObj.row false (ints xs1260))]] ∧ xs1260.length = a0.toNat ∧ Am.Sub [(0, .int .i64 a0), (3, .pointer (some ⟨i101, 0, none⟩)), (5, .slice p107 rs104.length c108), (6, .slice p736 rs738.length c737), (7, .int .i64 x740), (8, .slice (some (Addr.mk i1068 0 none)) a0.toNat a0.toNat), (10, .int .i64 x1261)] t') hl1290 ?_ ?_
            · skip
              have S1292 := S1199.front 5 rfl
              have S1293 := S1292.front 5 rfl
              have S1294 := S1293.front 5 rfl
              have S1295 := S1294.front 5 rfl
              have S1296 := S1295.front 5 rfl
              have S1297 := S1296.front 5 rfl
              exact ⟨xs1146, 0, rfl, S1297, lxs1146, Sub.cons' rfl rfl (Sub.cons' rfl rfl (Sub.cons' rfl rfl (Sub.cons' rfl rfl (Sub.cons' rfl rfl (Sub.cons' rfl rfl (Sub.cons' rfl rfl (Sub.nil _)))))))⟩
            · rintro n1298 _ t' G1302 ⟨xs1260, x1261, rfl, S1301, lxs1260, hsub1303⟩ o1304 ho1299 hk1300
              refine AX.sub hsub1303 ?_
              unfold D_spec_l05Rows_s2 at ho1299
              refine AX.seq ?_
              refine AX.seq ?_
              refine AX.region ?_
              refine AO.p rfl (p_move rfl) ?_
              refine AO.p rfl (p_move rfl) ?_
              refine AO.p rfl (p_len_slice rfl Try.underlying43) ?_
              refine AO.p rfl (p_lss rfl rfl) ?_
              refine AO.nil ?_
              refine AX.cond rfl (fun c1305 => ?_) (fun c1305 => ?_)
              · have hd1306 := bif_t c1305 ho1299
                refine AX.skip ?_
                refine AX.seq ?_
                refine AX.block ?_
                refine AX.region ?_
                refine AO.p rfl (p_move rfl) ?_
                refine AO.p rfl (p_move rfl) ?_
                refine AO.p rfl (p_move rfl) ?_
                obtain ⟨k1307, hd1308⟩ := chk_some hd1306
                refine AO.p rfl (s_indexV (q := x1261.toNat) Try.underlying43 Try.sizeOf58 rfl (B110.at (inR_pos k1307)) rfl k1307 (z1 _)) ?_
                obtain ⟨p1309, c1310, e1311, f1312⟩ := tget t112 (lt_len rfl (inR_lt k1307))
                refine AO.c rfl (s_load Try.isAgg58 rfl (row_cell (S1301.oat (k := 1) rfl (B110.at (inR_pos k1307))) f1312)) ?_
                refine AO.p rfl (p_move rfl) ?_
                refine AO.p rfl (p_move rfl) ?_
                refine AO.p rfl (p_conv Try.underlying3 Try.underlying118 rfl rfl) ?_
                obtain ⟨k1313, hd1314⟩ := chk_some hd1308
                refine AO.p rfl (p_shrE rfl rfl k1313) ?_
                refine AO.p rfl (p_andE rfl rfl) ?_
                obtain ⟨k1315, hd1316⟩ := chk_some hd1314
                refine AO.p rfl (s_indexV (q := off p1309 + (iand .i64 (ishr .i64 x740 (IntKind.u64.wrap x1261)) 1).toNat) Try.underlying58 Try.sizeOf2 rfl ((TVw.at (S1301.oviewT (k := 2) rfl s113) e1311).p (ints_get (lt_len rfl (inR_lt k1315)))) rfl k1315 (o1 _ _)) ?_
                refine AO.c rfl (s_load Try.isAgg2 rfl ((TVw.at (S1301.oviewT (k := 2) rfl s113) e1311).get _ _ (ints_get (lt_len rfl (inR_lt k1315))))) ?_
                obtain ⟨k1317, hd1318⟩ := chk_some hd1316
                refine AO.p rfl (s_indexV (q := (rd (rw_ rs104 x1261.toNat) ((iand .i64 (ishr .i64 x740 (IntKind.u64.wrap x1261)) 1).toNat)).toNat) Try.underlying58 Try.sizeOf2 rfl rfl rfl k1317 (z1 _)) ?_
                obtain ⟨G1319, hHG1319, S1320⟩ := S1301.set (k := 5) (i := i1068) rfl (AObj.row false (ints (xs1260.set ((rd (rw_ rs104 x1261.toNat) ((iand .i64 (ishr .i64 x740 (IntKind.u64.wrap x1261)) 1).toNat)).toNat) 1)))
                refine AO.s (s_store Try.sizeOf2 rfl rfl rfl (S1301.get (k := 5) rfl) (lt_len (ints_len lxs1260) (inR_lt k1317)) ((congrArg (fun l => List.set _ _ (AObj.row false l)) (ints_set _ _ _)).trans hHG1319)) ?_
                refine AO.nil ?_
                refine AX.region ?_
                refine AO.p rfl (p_move rfl) ?_
                obtain ⟨k1321, hd1322⟩ := chk_some hd1318
                refine AO.p rfl (p_addE rfl rfl k1321) ?_
                refine AO.p rfl (p_assign rfl) ?_
                refine AO.nil ?_
                obtain rfl := some_inj hd1322
                have S1324 := S1320.front 5 rfl
                have S1325 := S1324.front 5 rfl
                have S1326 := S1325.front 5 rfl
                have S1327 := S1326.front 5 rfl
                have S1328 := S1327.front 5 rfl
                have S1329 := S1328.front 5 rfl
                exact ⟨((xs1260.set ((rd (rw_ rs104 x1261.toNat) ((iand .i64 (ishr .i64 x740 (IntKind.u64.wrap x1261)) 1).toNat)).toNat) 1), x1261 + 1), hk1300, (xs1260.set ((rd (rw_ rs104 x1261.toNat) ((iand .i64 (ishr .i64 x740 (IntKind.u64.wrap x1261)) 1).toNat)).toNat) 1), (x1261 + 1), rfl, S1329, (len_set lxs1260), Sub.cons' rfl rfl (Sub.cons' rfl rfl (Sub.cons' rfl rfl (Sub.cons' rfl rfl (Sub.cons' rfl rfl (Sub.cons' rfl rfl (Sub.cons' rfl rfl (Sub.nil _)))))))⟩
              · have hd1330 := bif_f c1305 ho1299
                refine AX.exit ?_
                obtain rfl := some_inj hd1330
                have S1331 := S1301.front 5 rfl
                have S1332 := S1331.front 5 rfl
                have S1333 := S1332.front 5 rfl
                have S1334 := S1333.front 5 rfl
                have S1335 := S1334.front 5 rfl
                have S1336 := S1335.front 5 rfl
                exact ⟨xs1260, hk1300, S1336, lxs1260, Sub.cons' rfl rfl (Sub.cons' rfl rfl (Sub.cons' rfl rfl (Sub.cons' rfl rfl (Sub.cons' rfl rfl (Sub.cons' rfl rfl (Sub.nil _))))))⟩
          · rintro t' G1338 ⟨xs1288, rfl, S1337, lxs1288, hsub1339⟩
            refine ⟨_, hsub1339, ?_⟩
            refine AX.region ?_
            refine AO.p rfl (p_move rfl) ?_
            refine AO.p rfl (p_move rfl) ?_
            obtain ⟨G1340, i1341, hii1341, hHG1340, S1342⟩ := S1337.new (AObj.row false (tcells [((some (Addr.mk i1068 0 none)), a0.toNat, xs1288)]))
            have S1344 := (S1342.front 6 rfl).tone (some (Addr.mk i1068 0 none)) a0.toNat xs1288 rfl
            refine AO.c rfl (s_buildT1 (i := i1341) (X := [((some (Addr.mk i1068 0 none)), a0.toNat, xs1288)]) (n := a0.toNat) lxs1288 Try.underlying43 Try.sizeOf58 Try.zeroValue58 rfl rfl hii1341 hHG1340) ?_
            obtain ⟨k1345, hd1346⟩ := chk_some hd1291
            obtain ⟨p1347, c1348, G1349, haG1349, S1350, Bp1347⟩ := S1344.app (k := 5) rfl Bo735 (tcells [((some (Addr.mk i1068 0 none)), a0.toNat, xs1288)]) 1 (tc_len1 rfl rfl)
            have S1351 := S1350.cellsEq (k := 5) (us' := tcells (T739 ++ [((some (Addr.mk i1068 0 none)), a0.toNat, xs1288)])) (tcells_app _ _).symm rfl
            have BS1351 : Sb p1347 ((rs738 ++ [xs1288]).length) c1348 1 := (show rs738.length + 1 = (rs738 ++ [xs1288]).length from len_app (a := rs738) (b := [xs1288]) rfl rfl) ▸ Bp1347
            have S1352 := S1351.front 0 rfl
            have S1353 := (S1352.front 6 rfl).tmerge
            have S1354 := S1353.drop 1 rfl
            refine AO.c rfl (s_app (by_ := 24) (us := tcells T739) (vs := tcells [((some (Addr.mk i1068 0 none)), a0.toNat, xs1288)]) Try.underlying43 Try.underlying43 Try.typeInfo58 Try.sizeOf58 Try.zeroValue58 rfl rfl rfl rfl rfl rfl rfl (S1344.buf (k := 5) rfl Bo735 (tc_len1 tT739 rfl)) (S1344.oview (k := 1) rfl (Sb.lit (n := 1) (by decide)) (tc_len1 rfl rfl)) (tc_len1 rfl rfl) tcells_one k1345 haG1349 (show rs738.length + 1 = (rs738 ++ [xs1288]).length from len_app (a := rs738) (b := [xs1288]) rfl rfl)) ?_
            refine AO.p rfl (p_assign rfl) ?_
            refine AO.nil ?_
            refine AX.region ?_
            refine AO.p rfl (p_move rfl) ?_
            obtain ⟨k1355, hd1356⟩ := chk_some hd1346
            refine AO.p rfl (p_addE rfl rfl k1355) ?_
            refine AO.p rfl (p_assign rfl) ?_
            refine AO.nil ?_
            obtain rfl := some_inj hd1356
            have S1358 := S1354.front 0 rfl
            have S1359 := S1358.front 4 rfl
            have S1360 := S1359.front 4 rfl
            have S1361 := S1360.front 4 rfl
            have S1362 := S1361.front 4 rfl
            exact ⟨((rs738 ++ [xs1288]), x740 + 1), hk1056, (rs738 ++ [xs1288]), (x740 + 1), p1347, c1348, (T739 ++ [((some (Addr.mk i1068 0 none)), a0.toNat, xs1288)]), rfl, S1362, (trows_apps tT739 rfl), (TSb.app sT739 (TSb.one (sb_len lxs1288 (Sb.lit (mkcap k1065))))), BS1351, Sub.cons' rfl rfl (Sub.cons' rfl rfl (Sub.cons' rfl rfl (Sub.cons' rfl rfl (Sub.cons' rfl rfl (Sub.nil _)))))⟩
      · have hd1363 := bif_f c1063 hd1062
        refine AX.exit ?_
        obtain rfl := some_inj hd1363
        have S1364 := S1057.front 4 rfl
        have S1365 := S1364.front 4 rfl
        have S1366 := S1365.keep 2
        exact ⟨rs738, p736, c737, T739, hk1056, S1366, tT739, sT739, Bo735, Sub.cons' rfl rfl (Sub.nil _)⟩
  · rintro t' G1368 ⟨rs1044, p1042, c1043, T1045, rfl, S1367, tT1045, sT1045, Bo1041, hsub1369⟩
    refine ⟨_, hsub1369, ?_⟩
    refine AX.seq ?_
    refine AX.region ?_
    refine AO.p rfl (p_move rfl) ?_
    refine AO.p rfl (p_assign rfl) ?_
    refine AO.nil ?_
    refine AX.ret ?_
    obtain rfl := some_inj hd1048
    have S1370 := S1367.front 1 rfl
    have S1371 := S1370.front 1 rfl
    exact ⟨.inr rfl, _, res1 rfl (rv_tmp rfl), p1042, c1043, T1045, rfl, S1371, Bo1041, tT1045, sT1045⟩

set_option maxHeartbeats 4000000 in
theorem W_spec_l05Breaks (fu : Nat) (H : AHeap) (a0 : Int) (p_a1 : Option Addr) (c_a1 : Nat) (T_a1 : Tb) (a1 : List (List Int)) (t_a1 : trows T_a1 = a1) (v_a1 : Vw H p_a1 a1.length c_a1 (tcells T_a1)) (w_a1 : TVw H T_a1) (r0 : List Int) (hd : D_spec_l05Breaks fu a0 a1 = some r0) : ∃ v G', ACall Try.prog 66 [.int .i64 a0, .slice p_a1 a1.length c_a1] H v G' ∧ ∃ (p_r0 : Option Addr) (c_r0 : Nat), (v = .slice p_r0 r0.length c_r0) ∧ St [] H G' [oseg p_r0 (ints r0)] ∧ Sb p_r0 r0.length c_r0 1 := by
  refine ACall.bodyX (args := [.int .i64 a0, .slice p_a1 a1.length c_a1]) (N := 54) [(0, .int .i64 a0), (1, .slice p_a1 a1.length c_a1)] (fun v G' => ∃ (p_r0 : Option Addr) (c_r0 : Nat), (v = .slice p_r0 r0.length c_r0) ∧ St [] H G' [oseg p_r0 (ints r0)] ∧ Sb p_r0 r0.length c_r0 1) Try.func66 rfl rfl rfl rfl ?_
  unfold D_spec_l05Breaks at hd
  have S0 : St [] H H [] := St.nil H
  refine AX.seq ?_
  refine AX.region ?_
  refine AO.p rfl (p_assign rfl) ?_
  refine AO.nil ?_
  refine AX.seq ?_
  refine AX.region ?_
  refine AO.p rfl (p_move rfl) ?_
  obtain ⟨k100, hd101⟩ := chk_some hd
  obtain ⟨G102, i103, hii103, hHG102, S104⟩ := S0.new (AObj.row false (ints (List.replicate a0.toNat 0)))
  refine AO.c rfl (s_makeIntsE (i := i103) (by_ := 8) Try.underlying58 Try.typeInfo2 Try.sizeOf2 Try.zeroValue2 rfl rfl rfl rfl rfl k100 hii103 hHG102) ?_
  refine AO.p rfl (p_assign rfl) ?_
  refine AO.nil ?_
  refine AX.seq ?_
  refine AX.seq ?_
  refine AX.region ?_
  refine AO.p rfl (p_assign rfl) ?_
  refine AO.nil ?_
  obtain ⟨r1282, hl1283, hd1284⟩ := bnd_some hd101
  refine AX.cutS (fun t' H' => ∃ (xs1281 : List Int), xs1281 = r1282 ∧ St [] H H' [[(i103, AObj.row false (ints xs1281))]] ∧ xs1281.length = a0.toNat ∧ Am.Sub [(5, .slice (some (Addr.mk i103 0 none)) a0.toNat a0.toNat)] t') ?_ ?_
  · refine AX.block ?_
    refine AX.loopF (fun s' t' H' => ∃ (xs889 : List Int) (x890 : Int), (xs889, x890) = s' ∧ St [] H H' [[(i103, AObj.row false (ints xs889))]] ∧ xs889.length = a0.toNat ∧ Am.Sub [(0, .int .i64 a0), (1, .slice p_a1 a1.length c_a1), (5, .slice (some (Addr.mk i103 0 none)) a0.toNat a0.toNat), (6, .int .i64 x890)] t') hl1283 ?_ ?_
    · skip
      have S1285 := S104.front 0 rfl
      exact ⟨(List.replicate a0.toNat 0), 1, rfl, S1285, len_rep, Sub.cons' rfl rfl (Sub.cons' rfl rfl (Sub.cons' rfl rfl (Sub.cons' rfl rfl (Sub.nil _))))⟩
    · rintro n1286 _ t' G1290 ⟨xs889, x890, rfl, S1289, lxs889, hsub1291⟩ o1292 ho1287 hk1288
      refine AX.sub hsub1291 ?_
      unfold D_spec_l05Breaks_s0 at ho1287
      refine AX.seq ?_
      refine AX.seq ?_
      refine AX.region ?_
      refine AO.p rfl (p_move rfl) ?_
      refine AO.p rfl (p_move rfl) ?_
      refine AO.p rfl (p_len_slice rfl Try.underlying43) ?_
      refine AO.p rfl (p_lss rfl rfl) ?_
      refine AO.nil ?_
      refine AX.cond rfl (fun c1293 => ?_) (fun c1293 => ?_)
      · have hd1294 := bif_t c1293 ho1287
        refine AX.skip ?_
        refine AX.seq ?_
        refine AX.block ?_
        refine AX.seq ?_
        refine AX.region ?_
        refine AO.p rfl (p_assign rfl) ?_
        refine AO.nil ?_
        obtain ⟨r1571, hl1572, hd1573⟩ := bnd_some hd1294
        refine AX.cutS (fun t' H' => ∃ (xs1570 : List Int), xs1570 = r1571 ∧ St [] H H' [[(i103, AObj.row false (ints xs1570))]] ∧ xs1570.length = a0.toNat ∧ Am.Sub [(0, .int .i64 a0), (1, .slice p_a1 a1.length c_a1), (5, .slice (some (Addr.mk i103 0 none)) a0.toNat a0.toNat), (6, .int .i64 x890)] t') ?_ ?_
        · refine AX.block ?_
          refine AX.loopF (fun s' t' H' => ∃ (xs1478 : List Int) (x1479 : Int), (xs1478, x1479) = s' ∧ St [] H H' [[(i103, AObj.row false (ints xs1478))]] ∧ xs1478.length = a0.toNat ∧ Am.Sub [(0, .int .i64 a0), (1, .slice p_a1 a1.length c_a1), (5, .slice (some (Addr.mk i103 0 none)) a0.toNat a0.toNat), (6, .int .i64 x890), (7, .int .i64 x1479)] t') hl1572 ?_ ?_
          · skip
            have S1574 := S1289.front 0 rfl
            exact ⟨xs889, 0, rfl, S1574, lxs889, Sub.cons' rfl rfl (Sub.cons' rfl rfl (Sub.cons' rfl rfl (Sub.cons' rfl rfl (Sub.cons' rfl rfl (Sub.nil _)))))⟩
          · rintro n1575 _ t' G1579 ⟨xs1478, x1479, rfl, S1578, lxs1478, hsub1580⟩ o1581 ho1576 hk1577
            refine AX.sub hsub1580 ?_
            unfold D_spec_l05Breaks_s1 at ho1576
            refine AX.seq ?_
            refine AX.seq ?_
            refine AX.region ?_
            refine AO.p rfl (p_move rfl) ?_
            refine AO.p rfl (p_move rfl) ?_
            refine AO.p rfl (p_lss rfl rfl) ?_
            refine AO.nil ?_
            refine AX.cond rfl (fun c1582 => ?_) (fun c1582 => ?_)
            · have hd1583 := bif_t c1582 ho1576
              refine AX.skip ?_
              refine AX.seq ?_
              refine AX.block ?_
              obtain ⟨r1615, hb1616, hd1617⟩ := bnd_some hd1583
              refine AX.cut (fun t' H' => ∃ (b1614 : Bool), b1614 = r1615 ∧ St [] H H' [[(i103, AObj.row false (ints xs1478))]] ∧ Am.Sub [(0, .int .i64 a0), (1, .slice p_a1 a1.length c_a1), (5, .slice (some (Addr.mk i103 0 none)) a0.toNat a0.toNat), (6, .int .i64 x890), (7, .int .i64 x1479), (46, .bool b1614)] t') ?_ ?_
              · skip
                refine DR.startS [false, false, false, false, false, false, false, false, false, false, false, false, false, false, false, false, false, false, false, false, false, false, false, false, false, false] mix (by kernel_rfl) (fun hst => ?_)
                refine DR.p rfl rfl (p_move rfl) ?_
                refine DR.p rfl rfl (p_move rfl) ?_
                obtain ⟨k1618, hd1619⟩ := chk_some hb1616
                obtain ⟨p1620, c1621, e1622, f1623⟩ := tget t_a1 (lt_len rfl (inR_lt k1618))
                refine DR.p rfl rfl (s_indexV (q := off p_a1 + x890.toNat) Try.underlying43 Try.sizeOf58 rfl ((S1578.view v_a1).p f1623) rfl k1618 (o1 _ _)) ?_
                refine DR.r rfl rfl (r_load rfl Try.isAgg58) (one_read ((S1578.view v_a1).get _ _ f1623) (TVw.at (S1578.tview w_a1) e1622).inn.bel) ?_
                refine DR.p rfl rfl (p_move rfl) ?_
                obtain ⟨k1624, hd1625⟩ := chk_some hd1619
                refine DR.p rfl rfl (s_indexV (q := off p1620 + x1479.toNat) Try.underlying58 Try.sizeOf2 rfl ((TVw.at (S1578.tview w_a1) e1622).p (ints_get (lt_len rfl (inR_lt k1624)))) rfl k1624 (o1 _ _)) ?_
                refine DR.r rfl rfl (r_load rfl Try.isAgg2) (one_read ((TVw.at (S1578.tview w_a1) e1622).get _ _ (ints_get (lt_len rfl (inR_lt k1624)))) (.of_flat0 rfl)) ?_
                refine DR.p rfl rfl (p_geq rfl rfl) ?_
                refine DR.pb rfl rfl (p_move rfl) (fun c1626 => ?_) (fun c1626 => ?_)
                · have hd1627 := bif_t c1626 hd1625
                  refine DR.gp rfl rfl rfl rfl (p_move rfl) ?_
                  refine DR.gp rfl rfl rfl rfl (p_move rfl) ?_
                  obtain ⟨k1628, hd1629⟩ := chk_some hd1627
                  obtain ⟨p1630, c1631, e1632, f1633⟩ := tget t_a1 (lt_len rfl (inR_lt k1628))
                  refine DR.gp rfl rfl rfl rfl (s_indexV (q := off p_a1 + x890.toNat) Try.underlying43 Try.sizeOf58 rfl ((S1578.view v_a1).p f1633) rfl k1628 (o1 _ _)) ?_
                  refine DR.gr rfl rfl rfl rfl (r_load rfl Try.isAgg58) (one_read ((S1578.view v_a1).get _ _ f1633) (TVw.at (S1578.tview w_a1) e1632).inn.bel) ?_
                  refine DR.gp rfl rfl rfl rfl (p_move rfl) ?_
                  obtain ⟨k1634, hd1635⟩ := chk_some hd1629
                  refine DR.gp rfl rfl rfl rfl (s_indexV (q := off p1630 + x1479.toNat) Try.underlying58 Try.sizeOf2 rfl ((TVw.at (S1578.tview w_a1) e1632).p (ints_get (lt_len rfl (inR_lt k1634)))) rfl k1634 (o1 _ _)) ?_
                  refine DR.gr rfl rfl rfl rfl (r_load rfl Try.isAgg2) (one_read ((TVw.at (S1578.tview w_a1) e1632).get _ _ (ints_get (lt_len rfl (inR_lt k1634)))) (.of_flat0 rfl)) ?_
                  refine DR.gp rfl rfl rfl rfl (p_move rfl) ?_
                  refine DR.gp rfl rfl rfl rfl (p_move rfl) ?_
                  obtain ⟨k1636, hd1637⟩ := chk_some hd1635
                  refine DR.gp rfl rfl rfl rfl (p_subE rfl rfl k1636) ?_
                  obtain ⟨k1638, hd1639⟩ := chk_some hd1637
                  obtain ⟨p1640, c1641, e1642, f1643⟩ := tget t_a1 (lt_len rfl (inR_lt k1638))
                  refine DR.gp rfl rfl rfl rfl (s_indexV (q := off p_a1 + (x890 - 1).toNat) Try.underlying43 Try.sizeOf58 rfl ((S1578.view v_a1).p f1643) rfl k1638 (o1 _ _)) ?_
                  refine DR.gr rfl rfl rfl rfl (r_load rfl Try.isAgg58) (one_read ((S1578.view v_a1).get _ _ f1643) (TVw.at (S1578.tview w_a1) e1642).inn.bel) ?_
                  refine DR.gp rfl rfl rfl rfl (p_move rfl) ?_
                  obtain ⟨k1644, hd1645⟩ := chk_some hd1639
                  refine DR.gp rfl rfl rfl rfl (s_indexV (q := off p1640 + x1479.toNat) Try.underlying58 Try.sizeOf2 rfl ((TVw.at (S1578.tview w_a1) e1642).p (ints_get (lt_len rfl (inR_lt k1644)))) rfl k1644 (o1 _ _)) ?_
                  refine DR.gr rfl rfl rfl rfl (r_load rfl Try.isAgg2) (one_read ((TVw.at (S1578.tview w_a1) e1642).get _ _ (ints_get (lt_len rfl (inR_lt k1644)))) (.of_flat0 rfl)) ?_
                  refine DR.gp rfl rfl rfl rfl (p_eql rfl rfl) ?_
                  refine DR.p rfl rfl (p_pickT rfl rfl) ?_
                  refine DR.nil 26 [] hst (by kernel_rfl) trivial ?_
                  have S1646 := S1578.front 0 rfl
                  exact ⟨(decide (rd (rw_ a1 x890.toNat) x1479.toNat = rd (rw_ a1 ((x890 - 1).toNat)) x1479.toNat)), (some_inj hd1645), S1646, Sub.cons' rfl rfl (Sub.cons' rfl rfl (Sub.cons' rfl rfl (Sub.cons' rfl rfl (Sub.cons' rfl rfl (Sub.cons' rfl rfl (Sub.nil _))))))⟩
                · have hd1647 := bif_f c1626 hd1625
                  refine DR.gn rfl rfl rfl rfl ?_
                  refine DR.gn rfl rfl rfl rfl ?_
                  refine DR.gn rfl rfl rfl rfl ?_
                  refine DR.gn rfl rfl rfl rfl ?_
                  refine DR.gn rfl rfl rfl rfl ?_
                  refine DR.gn rfl rfl rfl rfl ?_
                  refine DR.gn rfl rfl rfl rfl ?_
                  refine DR.gn rfl rfl rfl rfl ?_
                  refine DR.gn rfl rfl rfl rfl ?_
                  refine DR.gn rfl rfl rfl rfl ?_
                  refine DR.gn rfl rfl rfl rfl ?_
                  refine DR.gn rfl rfl rfl rfl ?_
                  refine DR.gn rfl rfl rfl rfl ?_
                  refine DR.gn rfl rfl rfl rfl ?_
                  refine DR.gn rfl rfl rfl rfl ?_
                  refine DR.gn rfl rfl rfl rfl ?_
                  refine DR.p rfl rfl (p_pickF rfl rfl) ?_
                  refine DR.nil 26 [] hst (by kernel_rfl) trivial ?_
                  have S1648 := S1578.front 0 rfl
                  exact ⟨false, (some_inj hd1647), S1648, Sub.cons' rfl rfl (Sub.cons' rfl rfl (Sub.cons' rfl rfl (Sub.cons' rfl rfl (Sub.cons' rfl rfl (Sub.cons' rfl rfl (Sub.nil _))))))⟩
              · rintro t' G1650 ⟨b1614, rfl, S1649, hsub1651⟩
                refine AX.sub hsub1651 ?_
                refine AX.cond rfl (fun c1652 => ?_) (fun c1652 => ?_)
                · have hd1653 := bif_t c1652 hd1617
                  refine AX.region ?_
                  refine AO.p rfl (p_move rfl) ?_
                  refine AO.p rfl (p_move rfl) ?_
                  obtain ⟨k1654, hd1655⟩ := chk_some hd1653
                  refine AO.p rfl (s_indexV (q := x1479.toNat) Try.underlying58 Try.sizeOf2 rfl rfl rfl k1654 (z1 _)) ?_
                  refine AO.c rfl (s_load Try.isAgg2 rfl (row_cell (S1649.get (k := 0) rfl) (ints_get (lt_len lxs1478 (inR_lt k1654))))) ?_
                  obtain ⟨k1656, hd1657⟩ := chk_some hd1655
                  refine AO.p rfl (p_addE rfl rfl k1656) ?_
                  obtain ⟨k1658, hd1659⟩ := chk_some hd1657
                  refine AO.p rfl (s_indexV (q := x1479.toNat) Try.underlying58 Try.sizeOf2 rfl rfl rfl k1658 (z1 _)) ?_
                  obtain ⟨G1660, hHG1660, S1661⟩ := S1649.set (k := 0) (i := i103) rfl (AObj.row false (ints (xs1478.set x1479.toNat (rd xs1478 x1479.toNat + 1))))
                  refine AO.s (s_store Try.sizeOf2 rfl rfl rfl (S1649.get (k := 0) rfl) (lt_len (ints_len lxs1478) (inR_lt k1658)) ((congrArg (fun l => List.set _ _ (AObj.row false l)) (ints_set _ _ _)).trans hHG1660)) ?_
                  refine AO.nil ?_
                  refine AX.region ?_
                  refine AO.p rfl (p_move rfl) ?_
                  obtain ⟨k1662, hd1663⟩ := chk_some hd1659
                  refine AO.p rfl (p_addE rfl rfl k1662) ?_
                  refine AO.p rfl (p_assign rfl) ?_
                  refine AO.nil ?_
                  obtain rfl := some_inj hd1663
                  have S1665 := S1661.front 0 rfl
                  exact ⟨((xs1478.set x1479.toNat (rd xs1478 x1479.toNat + 1)), x1479 + 1), hk1577, (xs1478.set x1479.toNat (rd xs1478 x1479.toNat + 1)), (x1479 + 1), rfl, S1665, (len_set lxs1478), Sub.cons' rfl rfl (Sub.cons' rfl rfl (Sub.cons' rfl rfl (Sub.cons' rfl rfl (Sub.cons' rfl rfl (Sub.nil _)))))⟩
                · have hd1666 := bif_f c1652 hd1617
                  refine AX.skip ?_
                  refine AX.region ?_
                  refine AO.p rfl (p_move rfl) ?_
                  obtain ⟨k1667, hd1668⟩ := chk_some hd1666
                  refine AO.p rfl (p_addE rfl rfl k1667) ?_
                  refine AO.p rfl (p_assign rfl) ?_
                  refine AO.nil ?_
                  obtain rfl := some_inj hd1668
                  have S1670 := S1649.front 0 rfl
                  exact ⟨(xs1478, x1479 + 1), hk1577, xs1478, (x1479 + 1), rfl, S1670, lxs1478, Sub.cons' rfl rfl (Sub.cons' rfl rfl (Sub.cons' rfl rfl (Sub.cons' rfl rfl (Sub.cons' rfl rfl (Sub.nil _)))))⟩
            · have hd1671 := bif_f c1582 ho1576
              refine AX.exit ?_
              obtain rfl := some_inj hd1671
              have S1672 := S1578.front 0 rfl
              exact ⟨xs1478, hk1577, S1672, lxs1478, Sub.cons' rfl rfl (Sub.cons' rfl rfl (Sub.cons' rfl rfl (Sub.cons' rfl rfl (Sub.nil _))))⟩
        · rintro t' G1674 ⟨xs1570, rfl, S1673, lxs1570, hsub1675⟩
          refine ⟨_, hsub1675, ?_⟩
          refine AX.region ?_
          refine AO.p rfl (p_move rfl) ?_
          obtain ⟨k1676, hd1677⟩ := chk_some hd1573
          refine AO.p rfl (p_addE rfl rfl k1676) ?_
          refine AO.p rfl (p_assign rfl) ?_
          refine AO.nil ?_
          obtain rfl := some_inj hd1677
          have S1679 := S1673.front 0 rfl
          exact ⟨(xs1570, x890 + 1), hk1288, xs1570, (x890 + 1), rfl, S1679, lxs1570, Sub.cons' rfl rfl (Sub.cons' rfl rfl (Sub.cons' rfl rfl (Sub.cons' rfl rfl (Sub.nil _))))⟩
      · have hd1680 := bif_f c1293 ho1287
        refine AX.exit ?_
        obtain rfl := some_inj hd1680
        have S1681 := S1289.front 0 rfl
        exact ⟨xs889, hk1288, S1681, lxs889, Sub.cons' rfl rfl (Sub.nil _)⟩
  · rintro t' G1683 ⟨xs1281, rfl, S1682, lxs1281, hsub1684⟩
    refine ⟨_, hsub1684, ?_⟩
    refine AX.seq ?_
    refine AX.region ?_
    refine AO.p rfl (p_move rfl) ?_
    refine AO.p rfl (p_assign rfl) ?_
    refine AO.nil ?_
    refine AX.ret ?_
    obtain rfl := some_inj hd1284
    have S1685 := S1682.front 0 rfl
    exact ⟨.inr rfl, _, res1 rfl (rv_tmp rfl), (some (Addr.mk i103 0 none)), a0.toNat, (by rw [show List.length xs1281 = a0.toNat from lxs1281]), S1685, (by rw [show List.length xs1281 = a0.toNat from lxs1281]; exact (Sb.lit (mkcap k100)))⟩

set_option maxHeartbeats 4000000 in
theorem W_spec_FewestBreaks (fu : Nat) (H : AHeap) (a0_0 : Int) (p_a0_1 : Option Addr) (c_a0_1 : Nat) (a0_1 : List (List Int)) (a_a0_1 : All 14 a0_1) (v_a0_1 : Vw H p_a0_1 a0_1.length c_a0_1 (ints a0_1.flatten)) (r0 : Int) (r1 : Int) (hd : D_spec_FewestBreaks fu a0_0 a0_1 = some (r0, r1)) : ACall Try.prog 18 [.agg [.int .i64 a0_0, .slice p_a0_1 a0_1.length c_a0_1].toArray] H (.tuple #[.int .i64 r0, .int .i64 r1]) H := by
  refine ACall.bodyP (N := 135) [(0, .agg [.int .i64 a0_0, .slice p_a0_1 a0_1.length c_a0_1].toArray)] Try.func18 rfl rfl rfl rfl ?_
  unfold D_spec_FewestBreaks at hd
  have S0 : St [] H H [] := St.nil H
  refine AX.seq ?_
  refine AX.region ?_
  obtain ⟨G100, i101, hii101, hHG100, S102⟩ := S0.new (AObj.row false ([.int .i64 a0_0, .slice p_a0_1 a0_1.length c_a0_1]))
  refine AO.c rfl (s_box (i := i101) (cs := [.int .i64 a0_0, .slice p_a0_1 a0_1.length c_a0_1]) rfl hii101 rfl hHG100) ?_
  refine AO.p rfl (p_assign rfl) ?_
  refine AO.p rfl (p_assign rfl) ?_
  refine AO.nil ?_
  refine AX.seq ?_
  refine AX.seq ?_
  refine AX.region ?_
  refine AO.c rfl (s_loadN (vs := [.int .i64 a0_0, .slice p_a0_1 a0_1.length c_a0_1]) Try.isAgg37 Try.sizeOf37 rfl rfl (row_cells (S102.get (k := 0) rfl))) ?_
  obtain ⟨b104, h105, hd106⟩ := bnd_some hd
  refine AO.c rfl (o_call (vs := [.agg [.int .i64 a0_0, .slice p_a0_1 a0_1.length c_a0_1].toArray]) rfl Try.call63 (W_spec_l01Is fu G100 a0_0 p_a0_1 c_a0_1 a0_1 a_a0_1 (S102.view v_a0_1) b104 h105)) ?_
  refine AO.p rfl (p_not rfl) ?_
  refine AO.nil ?_
  refine AX.cond rfl (fun c108 => ?_) (fun c108 => ?_)
  · have hd109 := bif_t c108 hd106
    refine AX.seq ?_
    refine AX.region ?_
    refine AO.p rfl (p_assign rfl) ?_
    refine AO.p rfl (p_assign rfl) ?_
    refine AO.nil ?_
    refine AX.ret ?_
    obtain ⟨rfl, rfl⟩ := Prod.mk.inj (some_inj hd109)
    exact ⟨.inr rfl, _, res2 rfl (rv_tmp rfl) (rv_tmp rfl), rfl, (flat_t2 (flatB_ok rfl) (flatB_ok rfl)), S102.hold⟩
  · have hd111 := bif_f c108 hd106
    refine AX.skip ?_
    refine AX.seq ?_
    refine AX.region ?_
    refine AO.p rfl (p_assign rfl) ?_
    refine AO.nil ?_
    refine AX.seq ?_
    refine AX.seq ?_
    refine AX.region ?_
    refine AO.p rfl (p_assign rfl) ?_
    refine AO.nil ?_
    obtain ⟨r199, hl200, hd201⟩ := bnd_some hd111
    refine AX.cutS (fun t' H' => ∃ (x198 : Int), x198 = r199 ∧ St [] H H' [[(i101, AObj.row false ([.int .i64 a0_0, .slice p_a0_1 a0_1.length c_a0_1]))]] ∧ Am.Sub [(1, .pointer (some ⟨i101, 0, none⟩)), (4, .int .i64 x198)] t') ?_ ?_
    · refine AX.block ?_
      refine AX.loopF (fun s' t' H' => ∃ (x169 : Int) (x170 : Int), (x169, x170) = s' ∧ St [] H H' [[(i101, AObj.row false ([.int .i64 a0_0, .slice p_a0_1 a0_1.length c_a0_1]))]] ∧ Am.Sub [(1, .pointer (some ⟨i101, 0, none⟩)), (4, .int .i64 x169), (5, .int .i64 x170)] t') hl200 ?_ ?_
      · skip
        have S202 := S102.front 0 rfl
        exact ⟨0, 0, rfl, S202, Sub.cons' rfl rfl (Sub.cons' rfl rfl (Sub.cons' rfl rfl (Sub.nil _)))⟩
      · rintro n203 _ t' G207 ⟨x169, x170, rfl, S206, hsub208⟩ o209 ho204 hk205
        refine AX.sub hsub208 ?_
        unfold D_spec_FewestBreaks_s0 at ho204
        refine AX.seq ?_
        refine AX.seq ?_
        refine AX.region ?_
        refine AO.p rfl (p_move rfl) ?_
        refine AO.p rfl (s_fieldAddr Try.underlying37 rfl Try.sizeOf35 (by decide) rfl rfl) ?_
        refine AO.c rfl (s_load Try.isAgg35 rfl (row_cell (S206.get (k := 0) rfl) rfl)) ?_
        refine AO.p rfl (p_len_slice rfl Try.underlying35) ?_
        refine AO.p rfl (p_lss rfl rfl) ?_
        refine AO.nil ?_
        refine AX.cond rfl (fun c210 => ?_) (fun c210 => ?_)
        · have hd211 := bif_t c210 ho204
          refine AX.skip ?_
          refine AX.seq ?_
          refine AX.block ?_
          refine DR.startS [false, false, false, false, false, false, false, false, true, false, false, false] mix (by kernel_rfl) (fun hst => ?_)
          refine DR.p rfl rfl (p_move rfl) ?_
          refine DR.p rfl rfl (s_fieldAddr Try.underlying37 rfl Try.sizeOf2 (by decide) rfl rfl) ?_
          refine DR.r rfl rfl (r_load rfl Try.isAgg2) (one_read (row_cell (S206.get (k := 0) rfl) rfl) (.of_flat0 rfl)) ?_
          refine DR.p rfl rfl (s_fieldAddr Try.underlying37 rfl Try.sizeOf35 (by decide) rfl rfl) ?_
          refine DR.r rfl rfl (r_load rfl Try.isAgg35) (one_read (row_cell (S206.get (k := 0) rfl) rfl) (S206.view v_a0_1).inn.bel) ?_
          refine DR.p rfl rfl (p_move rfl) ?_
          obtain ⟨k212, hd213⟩ := chk_some hd211
          refine DR.p rfl rfl (s_indexV (q := off p_a0_1 + x170.toNat * 14) Try.underlying35 Try.sizeOf54 rfl ((S206.view v_a0_1).rowne a_a0_1 (by decide) (lt_len rfl (inR_lt k212))) rfl k212 rfl) ?_
          refine DR.r rfl rfl (r_loadN (vs := ints (rw_ a0_1 x170.toNat)) rfl Try.isAgg54 Try.sizeOf54 (ints_len (rw_len a_a0_1 (lt_len rfl (inR_lt k212))))) (many_row ((S206.view v_a0_1).row a_a0_1 (lt_len rfl (inR_lt k212))) bel_ints) ?_
          obtain ⟨rs214, h215, hd216⟩ := bnd_some hd213
          obtain ⟨_, G225, hc224, p217, c218, T221, rfl, S226, B220, t222, s223⟩ := W_spec_l01Pairs fu G207 a0_0 (rw_ a0_1 x170.toNat) (rw_len a_a0_1 (lt_len rfl (inR_lt k212))) rs214 h215
          have S227 := S206.call S226
          refine DR.w rfl rfl (o_call (vs := [.int .i64 a0_0, .agg (ints (rw_ a0_1 x170.toNat)).toArray]) rfl Try.call64 hc224) (S226.len) ?_
          refine DR.p rfl rfl (p_len_slice rfl Try.underlying43) ?_
          obtain ⟨k228, hd229⟩ := chk_some hd216
          refine DR.p rfl rfl (p_addE rfl rfl k228) ?_
          refine DR.p rfl rfl (p_assign rfl) ?_
          refine DR.nil 12 [] hst (by kernel_rfl) trivial ?_
          refine AX.region ?_
          refine AO.p rfl (p_move rfl) ?_
          obtain ⟨k230, hd231⟩ := chk_some hd229
          refine AO.p rfl (p_addE rfl rfl k230) ?_
          refine AO.p rfl (p_assign rfl) ?_
          refine AO.nil ?_
          obtain rfl := some_inj hd231
          have S233 := S227.front 2 rfl
          have S234 := S233.keep 1
          exact ⟨(x169 + ((rs214.length : Nat) : Int), x170 + 1), hk205, (x169 + ((rs214.length : Nat) : Int)), (x170 + 1), rfl, S234, Sub.cons' rfl rfl (Sub.cons' rfl rfl (Sub.cons' rfl rfl (Sub.nil _)))⟩
        · have hd235 := bif_f c210 ho204
          refine AX.exit ?_
          obtain rfl := some_inj hd235
          have S236 := S206.front 0 rfl
          exact ⟨x169, hk205, S236, Sub.cons' rfl rfl (Sub.cons' rfl rfl (Sub.nil _))⟩
    · rintro t' G238 ⟨x198, rfl, S237, hsub239⟩
      refine ⟨_, hsub239, ?_⟩
      refine AX.seq ?_
      refine AX.seq ?_
      refine AX.region ?_
      refine AO.p rfl (p_move rfl) ?_
      refine AO.p rfl (p_gtr rfl rfl) ?_
      refine AO.nil ?_
      refine AX.cond rfl (fun c240 => ?_) (fun c240 => ?_)
      · have hd241 := bif_t c240 hd201
        refine AX.seq ?_
        refine AX.region ?_
        refine AO.p rfl (p_assign rfl) ?_
        refine AO.p rfl (p_assign rfl) ?_
        refine AO.nil ?_
        refine AX.ret ?_
        obtain ⟨rfl, rfl⟩ := Prod.mk.inj (some_inj hd241)
        exact ⟨.inr rfl, _, res2 rfl (rv_tmp rfl) (rv_tmp rfl), rfl, (flat_t2 (flatB_ok rfl) (flatB_ok rfl)), S237.hold⟩
      · have hd243 := bif_f c240 hd201
        refine AX.skip ?_
        refine AX.seq ?_
        refine AX.region ?_
        obtain ⟨G244, i245, hii245, hHG244, S246⟩ := S237.new (AObj.row false (tcells []))
        have S246t := S246.nilseg 1
        refine AO.c rfl (s_build0 (i := i245) Try.underlying43 Try.sizeOf58 hii245 hHG244) ?_
        obtain ⟨G248, i249, hii249, hHG248, S250⟩ := S246t.new (AObj.row false (ints []))
        refine AO.c rfl (s_build0 (i := i249) Try.underlying58 Try.sizeOf2 hii249 hHG248) ?_
        refine AO.p rfl (p_assign rfl) ?_
        refine AO.p rfl (p_assign rfl) ?_
        refine AO.nil ?_
        refine AX.seq ?_
        refine AX.seq ?_
        refine AX.region ?_
        refine AO.p rfl (p_assign rfl) ?_
        refine AO.nil ?_
        obtain ⟨r9194, hl9195, hd9196⟩ := bnd_some hd243
        refine AX.cutS (fun t' H' => ∃ (xs9193 : List Int) (p9191 : Option Addr) (c9192 : Nat), xs9193 = r9194 ∧ St [] H H' [oseg p9191 (ints xs9193)] ∧ Sb p9191 (xs9193.length) c9192 1 ∧ Am.Sub [(7, .slice p9191 xs9193.length c9192)] t') ?_ ?_
        · refine AX.block ?_
          refine AX.loopF (fun s' t' H' => ∃ (rs6212 : List (List Int)) (xs6217 : List Int) (x6218 : Int) (p6210 : Option Addr) (c6211 : Nat) (T6213 : Tb) (p6215 : Option Addr) (c6216 : Nat), (rs6212, xs6217, x6218) = s' ∧ St [] H H' [[(i101, AObj.row false ([.int .i64 a0_0, .slice p_a0_1 a0_1.length c_a0_1]))], oseg p6210 (tcells T6213), tseg T6213, oseg p6215 (ints xs6217)] ∧ trows T6213 = rs6212 ∧ TSb T6213 ∧ Sb p6210 (rs6212.length) c6211 1 ∧ Sb p6215 (xs6217.length) c6216 1 ∧ Am.Sub [(1, .pointer (some ⟨i101, 0, none⟩)), (6, .slice p6210 rs6212.length c6211), (7, .slice p6215 xs6217.length c6216), (8, .int .i64 x6218)] t') hl9195 ?_ ?_
          · skip
            have S9197 := S250.front 0 rfl
            have S9198 := S9197.front 2 rfl
            have S9199 := S9198.front 2 rfl
            have S9200 := S9199.front 3 rfl
            exact ⟨[], [], 0, (some (Addr.mk i245 0 none)), 0, [], (some (Addr.mk i249 0 none)), 0, rfl, S9200, rfl, TSb.nil, (Sb.lit (n := 0) (by decide)), (Sb.lit (n := 0) (by decide)), Sub.cons' rfl rfl (Sub.cons' rfl rfl (Sub.cons' rfl rfl (Sub.cons' rfl rfl (Sub.nil _))))⟩
          · rintro n9201 _ t' G9205 ⟨rs6212, xs6217, x6218, p6210, c6211, T6213, p6215, c6216, rfl, S9204, tT6213, sT6213, Bo6209, Bo6214, hsub9206⟩ o9207 ho9202 hk9203
            refine AX.sub hsub9206 ?_
            unfold D_spec_FewestBreaks_s1 at ho9202
            refine AX.seq ?_
            refine AX.seq ?_
            refine AX.region ?_
            refine AO.p rfl (p_move rfl) ?_
            refine AO.p rfl (s_fieldAddr Try.underlying37 rfl Try.sizeOf35 (by decide) rfl rfl) ?_
            refine AO.c rfl (s_load Try.isAgg35 rfl (row_cell (S9204.get (k := 0) rfl) rfl)) ?_
            refine AO.p rfl (p_len_slice rfl Try.underlying35) ?_
            refine AO.p rfl (p_lss rfl rfl) ?_
            refine AO.nil ?_
            refine AX.cond rfl (fun c9208 => ?_) (fun c9208 => ?_)
            · have hd9209 := bif_t c9208 ho9202
              refine AX.skip ?_
              refine AX.seq ?_
              refine AX.block ?_
              refine AX.seq ?_
              refine DR.startS [false, false, false, false, false, false, false, true, false] mix (by kernel_rfl) (fun hst => ?_)
              refine DR.p rfl rfl (s_fieldAddr Try.underlying37 rfl Try.sizeOf2 (by decide) rfl rfl) ?_
              refine DR.r rfl rfl (r_load rfl Try.isAgg2) (one_read (row_cell (S9204.get (k := 0) rfl) rfl) (.of_flat0 rfl)) ?_
              refine DR.p rfl rfl (s_fieldAddr Try.underlying37 rfl Try.sizeOf35 (by decide) rfl rfl) ?_
              refine DR.r rfl rfl (r_load rfl Try.isAgg35) (one_read (row_cell (S9204.get (k := 0) rfl) rfl) (S9204.view v_a0_1).inn.bel) ?_
              refine DR.p rfl rfl (p_move rfl) ?_
              obtain ⟨k9210, hd9211⟩ := chk_some hd9209
              refine DR.p rfl rfl (s_indexV (q := off p_a0_1 + x6218.toNat * 14) Try.underlying35 Try.sizeOf54 rfl ((S9204.view v_a0_1).rowne a_a0_1 (by decide) (lt_len rfl (inR_lt k9210))) rfl k9210 rfl) ?_
              refine DR.r rfl rfl (r_loadN (vs := ints (rw_ a0_1 x6218.toNat)) rfl Try.isAgg54 Try.sizeOf54 (ints_len (rw_len a_a0_1 (lt_len rfl (inR_lt k9210))))) (many_row ((S9204.view v_a0_1).row a_a0_1 (lt_len rfl (inR_lt k9210))) bel_ints) ?_
              obtain ⟨rs9212, h9213, hd9214⟩ := bnd_some hd9211
              obtain ⟨_, G9223, hc9222, p9215, c9216, T9219, rfl, S9224, B9218, t9220, s9221⟩ := W_spec_l05Rows fu G9205 a0_0 (rw_ a0_1 x6218.toNat) (rw_len a_a0_1 (lt_len rfl (inR_lt k9210))) rs9212 h9213
              have S9225 := S9204.call S9224
              refine DR.w rfl rfl (o_call (vs := [.int .i64 a0_0, .agg (ints (rw_ a0_1 x6218.toNat)).toArray]) rfl Try.call65 hc9222) (S9224.len) ?_
              refine DR.p rfl rfl (p_assign rfl) ?_
              refine DR.nil 9 [] hst (by kernel_rfl) trivial ?_
              refine AX.seq ?_
              refine AX.region ?_
              obtain ⟨G9226, i9227, hii9227, hHG9226, S9228⟩ := S9225.new (AObj.row false (ints []))
              refine AO.c rfl (s_build0 (i := i9227) Try.underlying58 Try.sizeOf2 hii9227 hHG9226) ?_
              refine AO.p rfl (p_assign rfl) ?_
              refine AO.nil ?_
              refine AX.seq ?_
              refine AX.seq ?_
              refine AX.region ?_
              refine AO.p rfl (p_assign rfl) ?_
              refine AO.nil ?_
              obtain ⟨r11422, hl11423, hd11424⟩ := bnd_some hd9214
              refine AX.cutS (fun t' H' => ∃ (xs11421 : List Int) (p11419 : Option Addr) (c11420 : Nat), xs11421 = r11422 ∧ St [] H H' [[(i101, AObj.row false ([.int .i64 a0_0, .slice p_a0_1 a0_1.length c_a0_1]))], oseg p9215 (tcells T9219), tseg T9219, oseg p11419 (ints xs11421)] ∧ Sb p11419 (xs11421.length) c11420 1 ∧ Am.Sub [(1, .pointer (some ⟨i101, 0, none⟩)), (8, .int .i64 x6218), (9, .slice p9215 rs9212.length c9216), (10, .slice p11419 xs11421.length c11420)] t') ?_ ?_
              · refine AX.block ?_
                refine AX.loopF (fun s' t' H' => ∃ (xs10693 : List Int) (x10694 : Int) (p10691 : Option Addr) (c10692 : Nat), (xs10693, x10694) = s' ∧ St [] H H' [[(i101, AObj.row false ([.int .i64 a0_0, .slice p_a0_1 a0_1.length c_a0_1]))], oseg p6210 (tcells T6213), tseg T6213, oseg p6215 (ints xs6217), oseg p9215 (tcells T9219), tseg T9219, oseg p10691 (ints xs10693)] ∧ Sb p10691 (xs10693.length) c10692 1 ∧ Am.Sub [(1, .pointer (some ⟨i101, 0, none⟩)), (6, .slice p6210 rs6212.length c6211), (7, .slice p6215 xs6217.length c6216), (8, .int .i64 x6218), (9, .slice p9215 rs9212.length c9216), (10, .slice p10691 xs10693.length c10692), (11, .int .i64 x10694)] t') hl11423 ?_ ?_
                · skip
                  have S11425 := S9228.front 0 rfl
                  have S11426 := S11425.front 2 rfl
                  have S11427 := S11426.front 2 rfl
                  have S11428 := S11427.front 6 rfl
                  have S11429 := S11428.front 6 rfl
                  have S11430 := S11429.front 6 rfl
                  have S11431 := S11430.front 6 rfl
                  exact ⟨[], 0, (some (Addr.mk i9227 0 none)), 0, rfl, S11431, (Sb.lit (n := 0) (by decide)), Sub.cons' rfl rfl (Sub.cons' rfl rfl (Sub.cons' rfl rfl (Sub.cons' rfl rfl (Sub.cons' rfl rfl (Sub.cons' rfl rfl (Sub.cons' rfl rfl (Sub.nil _)))))))⟩
                · rintro n11432 _ t' G11436 ⟨xs10693, x10694, p10691, c10692, rfl, S11435, Bo10690, hsub11437⟩ o11438 ho11433 hk11434
                  refine AX.sub hsub11437 ?_
                  unfold D_spec_FewestBreaks_s2 at ho11433
                  refine AX.seq ?_
                  refine AX.seq ?_
                  refine AX.region ?_
                  refine AO.p rfl (p_move rfl) ?_
                  refine AO.p rfl (p_move rfl) ?_
                  refine AO.p rfl (p_len_slice rfl Try.underlying43) ?_
                  refine AO.p rfl (p_lss rfl rfl) ?_
                  refine AO.nil ?_
                  refine AX.cond rfl (fun c11439 => ?_) (fun c11439 => ?_)
                  · have hd11440 := bif_t c11439 ho11433
                    refine AX.skip ?_
                    refine AX.seq ?_
                    refine AX.block ?_
                    refine AX.seq ?_
                    refine AX.region ?_
                    refine AO.p rfl (p_assign rfl) ?_
                    refine AO.nil ?_
                    refine AX.seq ?_
                    refine AX.seq ?_
                    refine AX.region ?_
                    refine AO.p rfl (p_assign rfl) ?_
                    refine AO.nil ?_
                    obtain ⟨r11943, hl11944, hd11945⟩ := bnd_some hd11440
                    refine AX.cutS (fun t' H' => ∃ (x11942 : Int), x11942 = r11943 ∧ St [] H H' [[(i101, AObj.row false ([.int .i64 a0_0, .slice p_a0_1 a0_1.length c_a0_1]))], oseg p6210 (tcells T6213), tseg T6213, oseg p6215 (ints xs6217), oseg p9215 (tcells T9219), tseg T9219, oseg p10691 (ints xs10693)] ∧ Am.Sub [(1, .pointer (some ⟨i101, 0, none⟩)), (6, .slice p6210 rs6212.length c6211), (7, .slice p6215 xs6217.length c6216), (8, .int .i64 x6218), (9, .slice p9215 rs9212.length c9216), (10, .slice p10691 xs10693.length c10692), (11, .int .i64 x10694), (12, .int .i64 x11942)] t') ?_ ?_
                    · refine AX.block ?_
                      refine AX.loopF (fun s' t' H' => ∃ (x11776 : Int) (x11777 : Int), (x11776, x11777) = s' ∧ St [] H H' [[(i101, AObj.row false ([.int .i64 a0_0, .slice p_a0_1 a0_1.length c_a0_1]))], oseg p6210 (tcells T6213), tseg T6213, oseg p6215 (ints xs6217), oseg p9215 (tcells T9219), tseg T9219, oseg p10691 (ints xs10693)] ∧ Am.Sub [(1, .pointer (some ⟨i101, 0, none⟩)), (6, .slice p6210 rs6212.length c6211), (7, .slice p6215 xs6217.length c6216), (8, .int .i64 x6218), (9, .slice p9215 rs9212.length c9216), (10, .slice p10691 xs10693.length c10692), (11, .int .i64 x10694), (12, .int .i64 x11776), (13, .int .i64 x11777)] t') hl11944 ?_ ?_
                      · skip
                        have S11946 := S11435.front 6 rfl
                        have S11947 := S11946.front 6 rfl
                        have S11948 := S11947.front 6 rfl
                        have S11949 := S11948.front 6 rfl
                        have S11950 := S11949.front 6 rfl
                        have S11951 := S11950.front 6 rfl
                        have S11952 := S11951.front 6 rfl
                        exact ⟨0, 0, rfl, S11952, Sub.cons' rfl rfl (Sub.cons' rfl rfl (Sub.cons' rfl rfl (Sub.cons' rfl rfl (Sub.cons' rfl rfl (Sub.cons' rfl rfl (Sub.cons' rfl rfl (Sub.cons' rfl rfl (Sub.cons' rfl rfl (Sub.nil _)))))))))⟩
                      · rintro n11953 _ t' G11957 ⟨x11776, x11777, rfl, S11956, hsub11958⟩ o11959 ho11954 hk11955
                        refine AX.sub hsub11958 ?_
                        unfold D_spec_FewestBreaks_s3 at ho11954
                        refine AX.seq ?_
                        refine AX.seq ?_
                        refine AX.region ?_
                        refine AO.p rfl (p_move rfl) ?_
                        refine AO.p rfl (p_move rfl) ?_
                        refine AO.p rfl (p_len_slice rfl Try.underlying43) ?_
                        refine AO.p rfl (p_lss rfl rfl) ?_
                        refine AO.nil ?_
                        refine AX.cond rfl (fun c11960 => ?_) (fun c11960 => ?_)
                        · have hd11961 := bif_t c11960 ho11954
                          refine AX.skip ?_
                          refine AX.seq ?_
                          refine AX.block ?_
                          refine AX.seq ?_
                          refine AX.region ?_
                          refine AO.p rfl (p_move rfl) ?_
                          refine AO.p rfl (p_move rfl) ?_
                          obtain ⟨k11962, hd11963⟩ := chk_some hd11961
                          refine AO.p rfl (s_indexV (q := x11777.toNat) Try.underlying58 Try.sizeOf2 rfl (Bo6214.at (inR_pos k11962)) rfl k11962 (z1 _)) ?_
                          refine AO.c rfl (s_load Try.isAgg2 rfl (row_cell (S11956.oat (k := 3) rfl (Bo6214.at (inR_pos k11962))) (ints_get (lt_len rfl (inR_lt k11962))))) ?_
                          refine AO.p rfl (p_assign rfl) ?_
                          refine AO.nil ?_
                          refine AX.seq ?_
                          refine DR.startS [false, false, false, false, false, false, false, false, false, false, false, true, false] mix (by kernel_rfl) (fun hst => ?_)
                          refine DR.p rfl rfl (s_fieldAddr Try.underlying37 rfl Try.sizeOf2 (by decide) rfl rfl) ?_
                          refine DR.r rfl rfl (r_load rfl Try.isAgg2) (one_read (row_cell (S11956.get (k := 0) rfl) rfl) (.of_flat0 rfl)) ?_
                          refine DR.p rfl rfl (p_move rfl) ?_
                          refine DR.p rfl rfl (p_move rfl) ?_
                          obtain ⟨k11964, hd11965⟩ := chk_some hd11963
                          refine DR.p rfl rfl (s_indexV (q := x11777.toNat) Try.underlying43 Try.sizeOf58 rfl (Bo6209.at (inR_pos k11964)) rfl k11964 (z1 _)) ?_
                          obtain ⟨p11966, c11967, e11968, f11969⟩ := tget tT6213 (lt_len rfl (inR_lt k11964))
                          refine DR.r rfl rfl (r_load rfl Try.isAgg58) (one_read (row_cell (S11956.oat (k := 1) rfl (Bo6209.at (inR_pos k11964))) f11969) (TVw.at (S11956.oviewT (k := 2) rfl sT6213) e11968).inn.bel) ?_
                          refine DR.p rfl rfl (p_move rfl) ?_
                          refine DR.p rfl rfl (p_move rfl) ?_
                          obtain ⟨k11970, hd11971⟩ := chk_some hd11965
                          refine DR.p rfl rfl (s_indexV (q := x10694.toNat) Try.underlying43 Try.sizeOf58 rfl (B9218.at (inR_pos k11970)) rfl k11970 (z1 _)) ?_
                          obtain ⟨p11972, c11973, e11974, f11975⟩ := tget t9220 (lt_len rfl (inR_lt k11970))
                          refine DR.r rfl rfl (r_load rfl Try.isAgg58) (one_read (row_cell (S11956.oat (k := 4) rfl (B9218.at (inR_pos k11970))) f11975) (TVw.at (S11956.oviewT (k := 5) rfl s9221) e11974).inn.bel) ?_
                          obtain ⟨G11976, i11977, hii11977, hHG11976, S11978⟩ := S11956.new (AObj.row false ([.slice p11966 ((rw_ rs6212 x11777.toNat).length) c11967, .slice p11972 ((rw_ rs9212 x10694.toNat).length) c11973]))
                          refine DR.a rfl rfl hii11977 hHG11976 (a_buildSl (vs := [(0, .slice p11966 ((rw_ rs6212 x11777.toNat).length) c11967), (1, .slice p11972 ((rw_ rs9212 x10694.toNat).length) c11973)]) (cs := [.slice p11966 ((rw_ rs6212 x11777.toNat).length) c11967, .slice p11972 ((rw_ rs9212 x10694.toNat).length) c11973]) Try.underlying43 Try.sizeOf58 Try.zeroValue58 rfl rfl (by decide) rfl rfl) ?_
                          obtain ⟨xs11980, h11981, hd11982⟩ := bnd_some hd11971
                          obtain ⟨_, G11988, hc11987, p11983, c11984, rfl, S11989, B11986⟩ := W_spec_l05Breaks fu G11976 a0_0 (some (Addr.mk i11977 0 none)) 2 [(p11966, c11967, (rw_ rs6212 x11777.toNat)), (p11972, c11973, (rw_ rs9212 x10694.toNat))] [(rw_ rs6212 x11777.toNat), (rw_ rs9212 x10694.toNat)] rfl (by rw [show List.length [(rw_ rs6212 x11777.toNat), (rw_ rs9212 x10694.toNat)] = 2 from rfl]; exact (vwT_2 (S11978.get (k := 0) rfl))) (TVw.cons2 (TVw.at (S11978.oviewT (k := 3) rfl sT6213) e11968) (TVw.cons2 (TVw.at (S11978.oviewT (k := 6) rfl s9221) e11974) TVw.nil)) xs11980 h11981
                          rw [show List.length [(rw_ rs6212 x11777.toNat), (rw_ rs9212 x10694.toNat)] = 2 from rfl] at hc11987
                          have S11990 := S11978.call S11989
                          refine DR.w rfl rfl (o_call (vs := [.int .i64 a0_0, .slice (some (Addr.mk i11977 0 none)) 2 2]) rfl Try.call66 hc11987) (S11989.len) ?_
                          refine DR.p rfl rfl (p_assign rfl) ?_
                          refine DR.nil 13 [] hst (by kernel_rfl) trivial ?_
                          refine AX.seq ?_
                          refine AX.seq ?_
                          refine AX.region ?_
                          refine AO.p rfl (p_assign rfl) ?_
                          refine AO.nil ?_
                          obtain ⟨r12055, hl12056, hd12057⟩ := bnd_some hd11982
                          refine AX.cutS (fun t' H' => ∃ (x12054 : Int), x12054 = r12055 ∧ St [] H H' [[(i101, AObj.row false ([.int .i64 a0_0, .slice p_a0_1 a0_1.length c_a0_1]))], oseg p6210 (tcells T6213), tseg T6213, oseg p6215 (ints xs6217), oseg p9215 (tcells T9219), tseg T9219, oseg p10691 (ints xs10693)] ∧ Am.Sub [(1, .pointer (some ⟨i101, 0, none⟩)), (6, .slice p6210 rs6212.length c6211), (7, .slice p6215 xs6217.length c6216), (8, .int .i64 x6218), (9, .slice p9215 rs9212.length c9216), (10, .slice p10691 xs10693.length c10692), (11, .int .i64 x10694), (12, .int .i64 x11776), (13, .int .i64 x11777), (14, .int .i64 x12054)] t') ?_ ?_
                          · refine AX.block ?_
                            refine AX.loopF (fun s' t' H' => ∃ (x12034 : Int) (x12036 : Int), (x12034, x12036) = s' ∧ St [] H H' [[(i101, AObj.row false ([.int .i64 a0_0, .slice p_a0_1 a0_1.length c_a0_1]))], oseg p6210 (tcells T6213), tseg T6213, oseg p6215 (ints xs6217), oseg p9215 (tcells T9219), tseg T9219, oseg p10691 (ints xs10693), oseg p11983 (ints xs11980)] ∧ Am.Sub [(1, .pointer (some ⟨i101, 0, none⟩)), (6, .slice p6210 rs6212.length c6211), (7, .slice p6215 xs6217.length c6216), (8, .int .i64 x6218), (9, .slice p9215 rs9212.length c9216), (10, .slice p10691 xs10693.length c10692), (11, .int .i64 x10694), (12, .int .i64 x11776), (13, .int .i64 x11777), (14, .int .i64 x12034), (15, .slice p11983 xs11980.length c11984), (16, .int .i64 x12036)] t') hl12056 ?_ ?_
                            · skip
                              have S12058 := S11990.front 0 rfl
                              have S12059 := S12058.front 8 rfl
                              have S12060 := S12059.front 8 rfl
                              have S12061 := S12060.front 8 rfl
                              have S12062 := S12061.front 8 rfl
                              have S12063 := S12062.front 8 rfl
                              have S12064 := S12063.front 8 rfl
                              have S12065 := S12064.front 8 rfl
                              have S12066 := S12065.keep 8
                              exact ⟨(rd xs6217 x11777.toNat), 0, rfl, S12066, Sub.cons' rfl rfl (Sub.cons' rfl rfl (Sub.cons' rfl rfl (Sub.cons' rfl rfl (Sub.cons' rfl rfl (Sub.cons' rfl rfl (Sub.cons' rfl rfl (Sub.cons' rfl rfl (Sub.cons' rfl rfl (Sub.cons' rfl rfl (Sub.cons' rfl rfl (Sub.cons' rfl rfl (Sub.nil _))))))))))))⟩
                            · rintro n12067 _ t' G12071 ⟨x12034, x12036, rfl, S12070, hsub12072⟩ o12073 ho12068 hk12069
                              refine AX.sub hsub12072 ?_
                              unfold D_spec_FewestBreaks_s4 at ho12068
                              refine AX.seq ?_
                              refine AX.seq ?_
                              refine AX.region ?_
                              refine AO.p rfl (p_move rfl) ?_
                              refine AO.p rfl (p_move rfl) ?_
                              refine AO.p rfl (p_len_slice rfl Try.underlying58) ?_
                              refine AO.p rfl (p_lss rfl rfl) ?_
                              refine AO.nil ?_
                              refine AX.cond rfl (fun c12074 => ?_) (fun c12074 => ?_)
                              · have hd12075 := bif_t c12074 ho12068
                                refine AX.skip ?_
                                refine AX.seq ?_
                                refine AX.block ?_
                                refine AX.region ?_
                                refine AO.p rfl (p_move rfl) ?_
                                refine AO.p rfl (p_move rfl) ?_
                                refine AO.p rfl (p_move rfl) ?_
                                obtain ⟨k12076, hd12077⟩ := chk_some hd12075
                                refine AO.p rfl (s_indexV (q := x12036.toNat) Try.underlying58 Try.sizeOf2 rfl (B11986.at (inR_pos k12076)) rfl k12076 (z1 _)) ?_
                                refine AO.c rfl (s_load Try.isAgg2 rfl (row_cell (S12070.oat (k := 7) rfl (B11986.at (inR_pos k12076))) (ints_get (lt_len rfl (inR_lt k12076))))) ?_
                                obtain ⟨k12078, hd12079⟩ := chk_some hd12077
                                refine AO.p rfl (p_addE rfl rfl k12078) ?_
                                refine AO.p rfl (p_assign rfl) ?_
                                refine AO.nil ?_
                                refine AX.region ?_
                                refine AO.p rfl (p_move rfl) ?_
                                obtain ⟨k12080, hd12081⟩ := chk_some hd12079
                                refine AO.p rfl (p_addE rfl rfl k12080) ?_
                                refine AO.p rfl (p_assign rfl) ?_
                                refine AO.nil ?_
                                obtain rfl := some_inj hd12081
                                have S12083 := S12070.front 7 rfl
                                have S12084 := S12083.front 7 rfl
                                have S12085 := S12084.front 7 rfl
                                have S12086 := S12085.front 7 rfl
                                have S12087 := S12086.front 7 rfl
                                have S12088 := S12087.front 7 rfl
                                have S12089 := S12088.front 7 rfl
                                have S12090 := S12089.front 7 rfl
                                exact ⟨(x12034 + (rd xs11980 x12036.toNat), x12036 + 1), hk12069, (x12034 + (rd xs11980 x12036.toNat)), (x12036 + 1), rfl, S12090, Sub.cons' rfl rfl (Sub.cons' rfl rfl (Sub.cons' rfl rfl (Sub.cons' rfl rfl (Sub.cons' rfl rfl (Sub.cons' rfl rfl (Sub.cons' rfl rfl (Sub.cons' rfl rfl (Sub.cons' rfl rfl (Sub.cons' rfl rfl (Sub.cons' rfl rfl (Sub.cons' rfl rfl (Sub.nil _))))))))))))⟩
                              · have hd12091 := bif_f c12074 ho12068
                                refine AX.exit ?_
                                obtain rfl := some_inj hd12091
                                have S12092 := S12070.front 6 rfl
                                have S12093 := S12092.front 6 rfl
                                have S12094 := S12093.front 6 rfl
                                have S12095 := S12094.front 6 rfl
                                have S12096 := S12095.front 6 rfl
                                have S12097 := S12096.front 6 rfl
                                have S12098 := S12097.front 6 rfl
                                have S12099 := S12098.keep 7
                                exact ⟨x12034, hk12069, S12099, Sub.cons' rfl rfl (Sub.cons' rfl rfl (Sub.cons' rfl rfl (Sub.cons' rfl rfl (Sub.cons' rfl rfl (Sub.cons' rfl rfl (Sub.cons' rfl rfl (Sub.cons' rfl rfl (Sub.cons' rfl rfl (Sub.cons' rfl rfl (Sub.nil _))))))))))⟩
                          · rintro t' G12101 ⟨x12054, rfl, S12100, hsub12102⟩
                            refine ⟨_, hsub12102, ?_⟩
                            refine AX.cut (fun t' H' => G12101 = H' ∧ Am.Sub [(1, .pointer (some ⟨i101, 0, none⟩)), (6, .slice p6210 rs6212.length c6211), (7, .slice p6215 xs6217.length c6216), (8, .int .i64 x6218), (9, .slice p9215 rs9212.length c9216), (10, .slice p10691 xs10693.length c10692), (11, .int .i64 x10694), (12, .int .i64 x11776), (13, .int .i64 x11777), (14, .int .i64 x12054), (106, .bool ((decide (x11777 = 0)) || (decide (x12054 < x11776))))] t') ?_ ?_
                            · skip
                              refine AX.region ?_
                              refine AO.p rfl (p_move rfl) ?_
                              refine AO.p rfl (p_eql rfl rfl) ?_
                              refine AO.p rfl (p_move rfl) ?_
                              refine AO.cases (d := 102) rfl (fun c12106 => ?_) (fun c12106 => ?_)
                              · skip
                                refine AO.gn rfl rfl rfl ?_
                                refine AO.gn rfl rfl rfl ?_
                                refine AO.gn rfl rfl rfl ?_
                                refine AO.p rfl (p_pickT rfl rfl) ?_
                                refine AO.nil ?_
                                exact ⟨rfl, Sub.cons' rfl rfl (Sub.cons' rfl rfl (Sub.cons' rfl rfl (Sub.cons' rfl rfl (Sub.cons' rfl rfl (Sub.cons' rfl rfl (Sub.cons' rfl rfl (Sub.cons' rfl rfl (Sub.cons' rfl rfl (Sub.cons' rfl rfl (Sub.cons' rfl (bool_eq (by simp only [c12106, Bool.true_and, Bool.false_and, Bool.and_true, Bool.and_false, Bool.true_or, Bool.false_or, Bool.or_true, Bool.or_false, Bool.not_true, Bool.not_false, cond_true, cond_false])) (Sub.nil _)))))))))))⟩
                              · skip
                                refine AO.gp rfl rfl rfl (p_move rfl) ?_
                                refine AO.gp rfl rfl rfl (p_move rfl) ?_
                                refine AO.gp rfl rfl rfl (p_lss rfl rfl) ?_
                                refine AO.p rfl (p_pickF rfl rfl) ?_
                                refine AO.nil ?_
                                exact ⟨rfl, Sub.cons' rfl rfl (Sub.cons' rfl rfl (Sub.cons' rfl rfl (Sub.cons' rfl rfl (Sub.cons' rfl rfl (Sub.cons' rfl rfl (Sub.cons' rfl rfl (Sub.cons' rfl rfl (Sub.cons' rfl rfl (Sub.cons' rfl rfl (Sub.cons' rfl (bool_eq (by simp only [c12106, Bool.true_and, Bool.false_and, Bool.and_true, Bool.and_false, Bool.true_or, Bool.false_or, Bool.or_true, Bool.or_false, Bool.not_true, Bool.not_false, cond_true, cond_false])) (Sub.nil _)))))))))))⟩
                            · rintro t' _ ⟨rfl, hsub12107⟩
                              refine AX.sub hsub12107 ?_
                              refine AX.cond rfl (fun c12108 => ?_) (fun c12108 => ?_)
                              · have hd12109 := bif_t c12108 hd12057
                                refine AX.region ?_
                                refine AO.p rfl (p_move rfl) ?_
                                refine AO.p rfl (p_assign rfl) ?_
                                refine AO.nil ?_
                                refine AX.region ?_
                                refine AO.p rfl (p_move rfl) ?_
                                obtain ⟨k12110, hd12111⟩ := chk_some hd12109
                                refine AO.p rfl (p_addE rfl rfl k12110) ?_
                                refine AO.p rfl (p_assign rfl) ?_
                                refine AO.nil ?_
                                obtain rfl := some_inj hd12111
                                have S12113 := S12100.front 6 rfl
                                have S12114 := S12113.front 6 rfl
                                have S12115 := S12114.front 6 rfl
                                have S12116 := S12115.front 6 rfl
                                have S12117 := S12116.front 6 rfl
                                have S12118 := S12117.front 6 rfl
                                have S12119 := S12118.front 6 rfl
                                exact ⟨(x12054, x11777 + 1), hk11955, x12054, (x11777 + 1), rfl, S12119, Sub.cons' rfl rfl (Sub.cons' rfl rfl (Sub.cons' rfl rfl (Sub.cons' rfl rfl (Sub.cons' rfl rfl (Sub.cons' rfl rfl (Sub.cons' rfl rfl (Sub.cons' rfl rfl (Sub.cons' rfl rfl (Sub.nil _)))))))))⟩
                              · have hd12120 := bif_f c12108 hd12057
                                refine AX.skip ?_
                                refine AX.region ?_
                                refine AO.p rfl (p_move rfl) ?_
                                obtain ⟨k12121, hd12122⟩ := chk_some hd12120
                                refine AO.p rfl (p_addE rfl rfl k12121) ?_
                                refine AO.p rfl (p_assign rfl) ?_
                                refine AO.nil ?_
                                obtain rfl := some_inj hd12122
                                have S12124 := S12100.front 6 rfl
                                have S12125 := S12124.front 6 rfl
                                have S12126 := S12125.front 6 rfl
                                have S12127 := S12126.front 6 rfl
                                have S12128 := S12127.front 6 rfl
                                have S12129 := S12128.front 6 rfl
                                have S12130 := S12129.front 6 rfl
                                exact ⟨(x11776, x11777 + 1), hk11955, x11776, (x11777 + 1), rfl, S12130, Sub.cons' rfl rfl (Sub.cons' rfl rfl (Sub.cons' rfl rfl (Sub.cons' rfl rfl (Sub.cons' rfl rfl (Sub.cons' rfl rfl (Sub.cons' rfl rfl (Sub.cons' rfl rfl (Sub.cons' rfl rfl (Sub.nil _)))))))))⟩
                        · have hd12131 := bif_f c11960 ho11954
                          refine AX.exit ?_
                          obtain rfl := some_inj hd12131
                          have S12132 := S11956.front 6 rfl
                          have S12133 := S12132.front 6 rfl
                          have S12134 := S12133.front 6 rfl
                          have S12135 := S12134.front 6 rfl
                          have S12136 := S12135.front 6 rfl
                          have S12137 := S12136.front 6 rfl
                          have S12138 := S12137.front 6 rfl
                          exact ⟨x11776, hk11955, S12138, Sub.cons' rfl rfl (Sub.cons' rfl rfl (Sub.cons' rfl rfl (Sub.cons' rfl rfl (Sub.cons' rfl rfl (Sub.cons' rfl rfl (Sub.cons' rfl rfl (Sub.cons' rfl rfl (Sub.nil _))))))))⟩
                    · rintro t' G12140 ⟨x11942, rfl, S12139, hsub12141⟩
                      refine ⟨_, hsub12141, ?_⟩
                      refine AX.region ?_
                      refine AO.p rfl (p_move rfl) ?_
                      refine AO.p rfl (p_move rfl) ?_
                      obtain ⟨G12142, i12143, hii12143, hHG12142, S12144⟩ := S12139.new (AObj.row false (ints [x11942]))
                      refine AO.c rfl (s_buildInts (i := i12143) (vs := [(0, .int .i64 x11942)]) (xs := [x11942]) Try.underlying58 Try.sizeOf2 Try.zeroValue2 rfl rfl (by decide) rfl rfl hii12143 hHG12142) ?_
                      obtain ⟨k12146, hd12147⟩ := chk_some hd11945
                      obtain ⟨p12148, c12149, G12150, haG12150, S12151, Bp12148⟩ := S12144.app (k := 7) rfl Bo10690 (ints [x11942]) 1 (ints_len1 rfl)
                      have S12152 := S12151.cellsEq (k := 7) (us' := ints (xs10693 ++ [x11942])) (ints_app _ _) rfl
                      have BS12152 : Sb p12148 ((xs10693 ++ [x11942]).length) c12149 1 := (show xs10693.length + 1 = (xs10693 ++ [x11942]).length from len_app (a := xs10693) (b := [x11942]) rfl rfl) ▸ Bp12148
                      have S12153 := S12152.drop 0 rfl
                      refine AO.c rfl (s_app (by_ := 8) (us := ints xs10693) (vs := ints [x11942]) Try.underlying58 Try.underlying58 Try.typeInfo2 Try.sizeOf2 Try.zeroValue2 rfl rfl rfl rfl rfl rfl rfl (S12144.buf (k := 7) rfl Bo10690 (ints_len1 rfl)) (S12144.oview (k := 0) rfl (Sb.lit (n := 1) (by decide)) (ints_len1 rfl)) (ints_len1 rfl) ints_one k12146 haG12150 (show xs10693.length + 1 = (xs10693 ++ [x11942]).length from len_app (a := xs10693) (b := [x11942]) rfl rfl)) ?_
                      refine AO.p rfl (p_assign rfl) ?_
                      refine AO.nil ?_
                      refine AX.region ?_
                      refine AO.p rfl (p_move rfl) ?_
                      obtain ⟨k12154, hd12155⟩ := chk_some hd12147
                      refine AO.p rfl (p_addE rfl rfl k12154) ?_
                      refine AO.p rfl (p_assign rfl) ?_
                      refine AO.nil ?_
                      obtain rfl := some_inj hd12155
                      have S12157 := S12153.front 6 rfl
                      have S12158 := S12157.front 6 rfl
                      have S12159 := S12158.front 6 rfl
                      have S12160 := S12159.front 6 rfl
                      have S12161 := S12160.front 6 rfl
                      have S12162 := S12161.front 6 rfl
                      have S12163 := S12162.front 6 rfl
                      exact ⟨((xs10693 ++ [x11942]), x10694 + 1), hk11434, (xs10693 ++ [x11942]), (x10694 + 1), p12148, c12149, rfl, S12163, BS12152, Sub.cons' rfl rfl (Sub.cons' rfl rfl (Sub.cons' rfl rfl (Sub.cons' rfl rfl (Sub.cons' rfl rfl (Sub.cons' rfl rfl (Sub.cons' rfl rfl (Sub.nil _)))))))⟩
                  · have hd12164 := bif_f c11439 ho11433
                    refine AX.exit ?_
                    obtain rfl := some_inj hd12164
                    have S12165 := S11435.front 6 rfl
                    have S12166 := S12165.front 6 rfl
                    have S12167 := S12166.front 6 rfl
                    have S12168 := S12167.front 3 rfl
                    have S12169 := S12168.keep 4
                    exact ⟨xs10693, p10691, c10692, hk11434, S12169, Bo10690, Sub.cons' rfl rfl (Sub.cons' rfl rfl (Sub.cons' rfl rfl (Sub.cons' rfl rfl (Sub.nil _))))⟩
              · rintro t' G12171 ⟨xs11421, p11419, c11420, rfl, S12170, Bo11418, hsub12172⟩
                refine ⟨_, hsub12172, ?_⟩
                refine AX.seq ?_
                refine AX.region ?_
                refine AO.p rfl (p_move rfl) ?_
                refine AO.p rfl (p_assign rfl) ?_
                refine AO.nil ?_
                refine AX.region ?_
                refine AO.p rfl (p_move rfl) ?_
                refine AO.p rfl (p_assign rfl) ?_
                refine AO.nil ?_
                refine AX.region ?_
                refine AO.p rfl (p_move rfl) ?_
                obtain ⟨k12173, hd12174⟩ := chk_some hd11424
                refine AO.p rfl (p_addE rfl rfl k12173) ?_
                refine AO.p rfl (p_assign rfl) ?_
                refine AO.nil ?_
                obtain rfl := some_inj hd12174
                have S12176 := S12170.front 3 rfl
                have S12177 := S12176.front 3 rfl
                have S12178 := S12177.front 3 rfl
                have S12179 := S12178.front 3 rfl
                exact ⟨(rs9212, xs11421, x6218 + 1), hk9203, rs9212, xs11421, (x6218 + 1), p9215, c9216, T9219, p11419, c11420, rfl, S12179, t9220, s9221, B9218, Bo11418, Sub.cons' rfl rfl (Sub.cons' rfl rfl (Sub.cons' rfl rfl (Sub.cons' rfl rfl (Sub.nil _))))⟩
            · have hd12180 := bif_f c9208 ho9202
              refine AX.exit ?_
              obtain rfl := some_inj hd12180
              have S12181 := S9204.front 3 rfl
              have S12182 := S12181.keep 1
              exact ⟨xs6217, p6215, c6216, hk9203, S12182, Bo6214, Sub.cons' rfl rfl (Sub.nil _)⟩
        · rintro t' G12184 ⟨xs9193, p9191, c9192, rfl, S12183, Bo9190, hsub12185⟩
          refine ⟨_, hsub12185, ?_⟩
          refine AX.seq ?_
          refine AX.region ?_
          refine AO.p rfl (p_assign rfl) ?_
          refine AO.nil ?_
          refine AX.seq ?_
          refine AX.seq ?_
          refine AX.region ?_
          refine AO.p rfl (p_assign rfl) ?_
          refine AO.nil ?_
          obtain ⟨r12299, hl12300, hd12301⟩ := bnd_some hd9196
          refine AX.cutS (fun t' H' => ∃ (x12298 : Int), x12298 = r12299 ∧ St [] H H' [] ∧ Am.Sub [(17, .int .i64 x12298)] t') ?_ ?_
          · refine AX.block ?_
            refine AX.loopF (fun s' t' H' => ∃ (x12261 : Int) (x12262 : Int), (x12261, x12262) = s' ∧ St [] H H' [oseg p9191 (ints xs9193)] ∧ Am.Sub [(7, .slice p9191 xs9193.length c9192), (17, .int .i64 x12261), (18, .int .i64 x12262)] t') hl12300 ?_ ?_
            · skip
              have S12302 := S12183.front 0 rfl
              exact ⟨0, 0, rfl, S12302, Sub.cons' rfl rfl (Sub.cons' rfl rfl (Sub.cons' rfl rfl (Sub.nil _)))⟩
            · rintro n12303 _ t' G12307 ⟨x12261, x12262, rfl, S12306, hsub12308⟩ o12309 ho12304 hk12305
              refine AX.sub hsub12308 ?_
              unfold D_spec_FewestBreaks_s5 at ho12304
              refine AX.seq ?_
              refine AX.seq ?_
              refine AX.region ?_
              refine AO.p rfl (p_move rfl) ?_
              refine AO.p rfl (p_move rfl) ?_
              refine AO.p rfl (p_len_slice rfl Try.underlying58) ?_
              refine AO.p rfl (p_lss rfl rfl) ?_
              refine AO.nil ?_
              refine AX.cond rfl (fun c12310 => ?_) (fun c12310 => ?_)
              · have hd12311 := bif_t c12310 ho12304
                refine AX.skip ?_
                refine AX.seq ?_
                refine AX.block ?_
                obtain ⟨r12319, hb12320, hd12321⟩ := bnd_some hd12311
                refine AX.cut (fun t' H' => ∃ (b12318 : Bool), b12318 = r12319 ∧ St [] H H' [oseg p9191 (ints xs9193)] ∧ Am.Sub [(7, .slice p9191 xs9193.length c9192), (17, .int .i64 x12261), (18, .int .i64 x12262), (129, .bool b12318)] t') ?_ ?_
                · skip
                  refine AX.region ?_
                  refine AO.p rfl (p_move rfl) ?_
                  refine AO.p rfl (p_eql rfl rfl) ?_
                  refine AO.p rfl (p_move rfl) ?_
                  refine AO.cases (d := 122) rfl (fun c12322 => ?_) (fun c12322 => ?_)
                  · have hd12323 := bif_t c12322 hb12320
                    refine AO.gn rfl rfl rfl ?_
                    refine AO.gn rfl rfl rfl ?_
                    refine AO.gn rfl rfl rfl ?_
                    refine AO.gn rfl rfl rfl ?_
                    refine AO.gn rfl rfl rfl ?_
                    refine AO.gn rfl rfl rfl ?_
                    refine AO.p rfl (p_pickT rfl rfl) ?_
                    refine AO.nil ?_
                    have S12324 := S12306.front 0 rfl
                    exact ⟨true, (some_inj hd12323), S12324, Sub.cons' rfl rfl (Sub.cons' rfl rfl (Sub.cons' rfl rfl (Sub.cons' rfl rfl (Sub.nil _))))⟩
                  · have hd12325 := bif_f c12322 hb12320
                    refine AO.gp rfl rfl rfl (p_move rfl) ?_
                    refine AO.gp rfl rfl rfl (p_move rfl) ?_
                    obtain ⟨k12326, hd12327⟩ := chk_some hd12325
                    refine AO.gp rfl rfl rfl (s_indexV (q := x12262.toNat) Try.underlying58 Try.sizeOf2 rfl (Bo9190.at (inR_pos k12326)) rfl k12326 (z1 _)) ?_
                    refine AO.gc rfl rfl rfl (s_load Try.isAgg2 rfl (row_cell (S12306.oat (k := 0) rfl (Bo9190.at (inR_pos k12326))) (ints_get (lt_len rfl (inR_lt k12326))))) ?_
                    refine AO.gp rfl rfl rfl (p_move rfl) ?_
                    refine AO.gp rfl rfl rfl (p_lss rfl rfl) ?_
                    refine AO.p rfl (p_pickF rfl rfl) ?_
                    refine AO.nil ?_
                    have S12328 := S12306.front 0 rfl
                    exact ⟨(decide (rd xs9193 x12262.toNat < x12261)), (some_inj hd12327), S12328, Sub.cons' rfl rfl (Sub.cons' rfl rfl (Sub.cons' rfl rfl (Sub.cons' rfl rfl (Sub.nil _))))⟩
                · rintro t' G12330 ⟨b12318, rfl, S12329, hsub12331⟩
                  refine AX.sub hsub12331 ?_
                  refine AX.cond rfl (fun c12332 => ?_) (fun c12332 => ?_)
                  · have hd12333 := bif_t c12332 hd12321
                    refine AX.region ?_
                    refine AO.p rfl (p_move rfl) ?_
                    refine AO.p rfl (p_move rfl) ?_
                    obtain ⟨k12334, hd12335⟩ := chk_some hd12333
                    refine AO.p rfl (s_indexV (q := x12262.toNat) Try.underlying58 Try.sizeOf2 rfl (Bo9190.at (inR_pos k12334)) rfl k12334 (z1 _)) ?_
                    refine AO.c rfl (s_load Try.isAgg2 rfl (row_cell (S12329.oat (k := 0) rfl (Bo9190.at (inR_pos k12334))) (ints_get (lt_len rfl (inR_lt k12334))))) ?_
                    refine AO.p rfl (p_assign rfl) ?_
                    refine AO.nil ?_
                    refine AX.region ?_
                    refine AO.p rfl (p_move rfl) ?_
                    obtain ⟨k12336, hd12337⟩ := chk_some hd12335
                    refine AO.p rfl (p_addE rfl rfl k12336) ?_
                    refine AO.p rfl (p_assign rfl) ?_
                    refine AO.nil ?_
                    obtain rfl := some_inj hd12337
                    have S12339 := S12329.front 0 rfl
                    exact ⟨(rd xs9193 x12262.toNat, x12262 + 1), hk12305, (rd xs9193 x12262.toNat), (x12262 + 1), rfl, S12339, Sub.cons' rfl rfl (Sub.cons' rfl rfl (Sub.cons' rfl rfl (Sub.nil _)))⟩
                  · have hd12340 := bif_f c12332 hd12321
                    refine AX.skip ?_
                    refine AX.region ?_
                    refine AO.p rfl (p_move rfl) ?_
                    obtain ⟨k12341, hd12342⟩ := chk_some hd12340
                    refine AO.p rfl (p_addE rfl rfl k12341) ?_
                    refine AO.p rfl (p_assign rfl) ?_
                    refine AO.nil ?_
                    obtain rfl := some_inj hd12342
                    have S12344 := S12329.front 0 rfl
                    exact ⟨(x12261, x12262 + 1), hk12305, x12261, (x12262 + 1), rfl, S12344, Sub.cons' rfl rfl (Sub.cons' rfl rfl (Sub.cons' rfl rfl (Sub.nil _)))⟩
              · have hd12345 := bif_f c12310 ho12304
                refine AX.exit ?_
                obtain rfl := some_inj hd12345
                have S12346 := S12306.keep 0
                exact ⟨x12261, hk12305, S12346, Sub.cons' rfl rfl (Sub.nil _)⟩
          · rintro t' G12348 ⟨x12298, rfl, S12347, hsub12349⟩
            refine ⟨_, hsub12349, ?_⟩
            refine AX.seq ?_
            refine AX.region ?_
            refine AO.p rfl (p_move rfl) ?_
            refine AO.p rfl (p_assign rfl) ?_
            refine AO.p rfl (p_assign rfl) ?_
            refine AO.nil ?_
            refine AX.ret ?_
            obtain ⟨rfl, rfl⟩ := Prod.mk.inj (some_inj hd12301)
            exact ⟨.inr rfl, _, res2 rfl (rv_tmp rfl) (rv_tmp rfl), rfl, (flat_t2 (flatB_ok rfl) (flatB_ok rfl)), S12347.hold⟩

end Go.Proofs.Ytdafmafigcljkaa
