/-
  The program computes that, printed by a program. No condition.
-/
import Derived.Test.YtfiilgnebmidbaaDoorDA
import Derived.Test.YtfiilgnebmidbaaDoorK5
import Derived.Test.YtfiilgnebmidbaaDoorProg
import Derived.KernelRfl
namespace Go.Proofs.YtfiilgnebmidbaaDoor
open Go Go.RowKit Am
set_option linter.unusedVariables false
set_option linter.unusedSimpArgs false
set_option maxRecDepth 20000
theorem mix : Tryd.prog.follows .mixedOrders = true := by kernel_rfl
set_option maxHeartbeats 4000000 in
theorem W_spec_l01In (fu : Nat) (H : AHeap) (a0 : Int) (a1 : Int) (a2 : Int) (r0 : Bool) (hd : D_spec_l01In fu a0 a1 a2 = some r0) : ACall Tryd.prog 55 [.int .i64 a0, .int .i64 a1, .int .i64 a2] H (.bool r0) H := by
  refine ACall.bodyP (N := 15) [(0, .int .i64 a0), (1, .int .i64 a1), (2, .int .i64 a2)] Tryd.func55 rfl rfl rfl rfl ?_
  unfold D_spec_l01In at hd
  have S0 : St [] H H [] := St.nil H
  refine AX.seq ?_
  refine AX.region ?_
  refine AO.p rfl (p_assign rfl) ?_
  refine AO.nil ?_
  refine AX.cut (fun t' H' => H = H' ∧ Am.Sub [(6, .bool ((decide (a1 ≤ a0)) && (decide (a0 ≤ a2))))] t') ?_ ?_
  · skip
    refine AX.region ?_
    refine AO.p rfl (p_move rfl) ?_
    refine AO.p rfl (p_move rfl) ?_
    refine AO.p rfl (p_geq rfl rfl) ?_
    refine AO.p rfl (p_move rfl) ?_
    refine AO.cases (d := 10) rfl (fun c103 => ?_) (fun c103 => ?_)
    · skip
      refine AO.gp rfl rfl rfl (p_move rfl) ?_
      refine AO.gp rfl rfl rfl (p_move rfl) ?_
      refine AO.gp rfl rfl rfl (p_leq rfl rfl) ?_
      refine AO.p rfl (p_pickT rfl rfl) ?_
      refine AO.p rfl (p_assign rfl) ?_
      refine AO.nil ?_
      exact ⟨rfl, Sub.cons' rfl (bool_eq (by simp only [c103, Bool.true_and, Bool.false_and, Bool.and_true, Bool.and_false, Bool.true_or, Bool.false_or, Bool.or_true, Bool.or_false, Bool.not_true, Bool.not_false, cond_true, cond_false])) (Sub.nil _)⟩
    · skip
      refine AO.gn rfl rfl rfl ?_
      refine AO.gn rfl rfl rfl ?_
      refine AO.gn rfl rfl rfl ?_
      refine AO.p rfl (p_pickF rfl rfl) ?_
      refine AO.p rfl (p_assign rfl) ?_
      refine AO.nil ?_
      exact ⟨rfl, Sub.cons' rfl (bool_eq (by simp only [c103, Bool.true_and, Bool.false_and, Bool.and_true, Bool.and_false, Bool.true_or, Bool.false_or, Bool.or_true, Bool.or_false, Bool.not_true, Bool.not_false, cond_true, cond_false])) (Sub.nil _)⟩
  · rintro t' _ ⟨rfl, hsub104⟩
    refine AX.sub hsub104 ?_
    refine AX.ret ?_
    obtain rfl := some_inj hd
    exact ⟨.inr rfl, _, res1 rfl (rv_tmp rfl), rfl, (flatB_ok rfl), S0.hold⟩

set_option maxHeartbeats 4000000 in
theorem W_impl_between (fu : Nat) (H : AHeap) (a0 : Int) (a1 : Int) (a2 : Int) (r0 : Bool) (hd : D_impl_between fu a0 a1 a2 = some r0) : ACall Tryd.prog 46 [.int .i64 a0, .int .i64 a1, .int .i64 a2] H (.bool r0) H := by
  refine ACall.bodyP (N := 15) [(0, .int .i64 a0), (1, .int .i64 a1), (2, .int .i64 a2)] Tryd.func46 rfl rfl rfl rfl ?_
  unfold D_impl_between at hd
  have S0 : St [] H H [] := St.nil H
  refine AX.seq ?_
  refine AX.region ?_
  refine AO.p rfl (p_assign rfl) ?_
  refine AO.nil ?_
  refine AX.cut (fun t' H' => H = H' ∧ Am.Sub [(6, .bool ((decide (a1 ≤ a0)) && (decide (a0 ≤ a2))))] t') ?_ ?_
  · skip
    refine AX.region ?_
    refine AO.p rfl (p_move rfl) ?_
    refine AO.p rfl (p_move rfl) ?_
    refine AO.p rfl (p_geq rfl rfl) ?_
    refine AO.p rfl (p_move rfl) ?_
    refine AO.cases (d := 10) rfl (fun c103 => ?_) (fun c103 => ?_)
    · skip
      refine AO.gp rfl rfl rfl (p_move rfl) ?_
      refine AO.gp rfl rfl rfl (p_move rfl) ?_
      refine AO.gp rfl rfl rfl (p_leq rfl rfl) ?_
      refine AO.p rfl (p_pickT rfl rfl) ?_
      refine AO.p rfl (p_assign rfl) ?_
      refine AO.nil ?_
      exact ⟨rfl, Sub.cons' rfl (bool_eq (by simp only [c103, Bool.true_and, Bool.false_and, Bool.and_true, Bool.and_false, Bool.true_or, Bool.false_or, Bool.or_true, Bool.or_false, Bool.not_true, Bool.not_false, cond_true, cond_false])) (Sub.nil _)⟩
    · skip
      refine AO.gn rfl rfl rfl ?_
      refine AO.gn rfl rfl rfl ?_
      refine AO.gn rfl rfl rfl ?_
      refine AO.p rfl (p_pickF rfl rfl) ?_
      refine AO.p rfl (p_assign rfl) ?_
      refine AO.nil ?_
      exact ⟨rfl, Sub.cons' rfl (bool_eq (by simp only [c103, Bool.true_and, Bool.false_and, Bool.and_true, Bool.and_false, Bool.true_or, Bool.false_or, Bool.or_true, Bool.or_false, Bool.not_true, Bool.not_false, cond_true, cond_false])) (Sub.nil _)⟩
  · rintro t' _ ⟨rfl, hsub104⟩
    refine AX.sub hsub104 ?_
    refine AX.ret ?_
    obtain rfl := some_inj hd
    exact ⟨.inr rfl, _, res1 rfl (rv_tmp rfl), rfl, (flatB_ok rfl), S0.hold⟩

set_option maxHeartbeats 4000000 in
theorem W_spec_l01Round (fu : Nat) (H : AHeap) (a0 : Int) (a1 : List Int) (h_a1 : a1.length = 14) (r0 : Bool) (hd : D_spec_l01Round fu a0 a1 = some r0) : ACall Tryd.prog 68 [.int .i64 a0, .agg (ints a1).toArray] H (.bool r0) H := by
  refine ACall.bodyP (N := 45) [(0, .int .i64 a0), (1, .agg (ints a1).toArray)] Tryd.func68 rfl rfl rfl rfl ?_
  unfold D_spec_l01Round at hd
  have S0 : St [] H H [] := St.nil H
  refine AX.seq ?_
  refine AX.region ?_
  obtain ⟨G100, i101, hii101, hHG100, S102⟩ := S0.new (AObj.row false (ints a1))
  refine AO.c rfl (s_box (i := i101) (cs := ints a1) rfl hii101 rfl hHG100) ?_
  refine AO.p rfl (p_assign rfl) ?_
  refine AO.nil ?_
  refine AX.seq ?_
  refine AX.seq ?_
  refine AX.region ?_
  refine AO.p rfl (p_move rfl) ?_
  obtain ⟨b104, h105, hd106⟩ := bnd_some hd
  refine AO.c rfl (o_call (vs := [.int .i64 a0, .int .i64 2, .int .i64 14]) rfl Tryd.call55 (W_spec_l01In fu G100 a0 2 14 b104 h105)) ?_
  refine AO.p rfl (p_not rfl) ?_
  refine AO.nil ?_
  refine AX.cond rfl (fun c108 => ?_) (fun c108 => ?_)
  · have hd109 := bif_t c108 hd106
    refine AX.seq ?_
    refine AX.region ?_
    refine AO.p rfl (p_assign rfl) ?_
    refine AO.nil ?_
    refine AX.ret ?_
    obtain rfl := some_inj hd109
    exact ⟨.inr rfl, _, res1 rfl (rv_tmp rfl), rfl, (flatB_ok rfl), S102.hold⟩
  · have hd110 := bif_f c108 hd106
    refine AX.skip ?_
    refine AX.seq ?_
    refine AX.seq ?_
    refine AX.region ?_
    refine AO.p rfl (p_assign rfl) ?_
    refine AO.nil ?_
    obtain ⟨r438, hl439, hd440⟩ := bnd_some hd110
    refine AX.cutS (fun t' H' => .inl () = r438 ∧ St [] H H' [] ∧ Am.Sub [] t') ?_ ?_
    · refine AX.block ?_
      refine AX.loopF (fun s' t' H' => ∃ (x323 : Int), x323 = s' ∧ St [] H H' [[(i101, AObj.row false (ints a1))]] ∧ Am.Sub [(0, .int .i64 a0), (3, .pointer (some ⟨i101, 0, none⟩)), (5, .int .i64 x323)] t') hl439 ?_ ?_
      · skip
        have S441 := S102.front 0 rfl
        exact ⟨0, rfl, S441, Sub.cons' rfl rfl (Sub.cons' rfl rfl (Sub.cons' rfl rfl (Sub.nil _)))⟩
      · rintro n442 _ t' G446 ⟨x323, rfl, S445, hsub447⟩ o448 ho443 hk444
        refine AX.sub hsub447 ?_
        unfold D_spec_l01Round_s0 at ho443
        refine AX.seq ?_
        refine AX.seq ?_
        refine AX.region ?_
        refine AO.p rfl (p_move rfl) ?_
        refine AO.p rfl (p_lss rfl rfl) ?_
        refine AO.nil ?_
        refine AX.cond rfl (fun c449 => ?_) (fun c449 => ?_)
        · have hd450 := bif_t c449 ho443
          refine AX.skip ?_
          refine AX.seq ?_
          refine AX.block ?_
          obtain ⟨r497, hb498, hd499⟩ := bnd_some hd450
          refine AX.cut (fun t' H' => ∃ (b496 : Bool), b496 = r497 ∧ St [] H H' [[(i101, AObj.row false (ints a1))]] ∧ Am.Sub [(0, .int .i64 a0), (3, .pointer (some ⟨i101, 0, none⟩)), (5, .int .i64 x323), (44, .bool b496)] t') ?_ ?_
          · skip
            refine AX.region ?_
            refine AO.p rfl (p_move rfl) ?_
            refine AO.p rfl (p_move rfl) ?_
            refine AO.p rfl (p_geq rfl rfl) ?_
            refine AO.p rfl (p_move rfl) ?_
            refine AO.cases (d := 16) rfl (fun c500 => ?_) (fun c500 => ?_)
            · have hd501 := bif_t c500 hb498
              refine AO.gp rfl rfl rfl (p_move rfl) ?_
              obtain ⟨k502, hd503⟩ := chk_some hd501
              refine AO.gp rfl rfl rfl (s_indexAr (q := x323.toNat) Tryd.underlying76 Tryd.sizeOf2 rfl rfl k502 (z1 _)) ?_
              refine AO.gc rfl rfl rfl (s_load Tryd.isAgg2 rfl (row_cell (S445.get (k := 0) rfl) (ints_get (lt_len h_a1 (inR_lt k502))))) ?_
              refine AO.gp rfl rfl rfl (p_neq rfl rfl) ?_
              refine AO.p rfl (p_pickT rfl rfl) ?_
              refine AO.p rfl (p_move rfl) ?_
              refine AO.cases (d := 22) rfl (fun c504 => ?_) (fun c504 => ?_)
              · have hd505 := bif_t c504 hd503
                refine AO.gn rfl rfl rfl ?_
                refine AO.gn rfl rfl rfl ?_
                refine AO.gn rfl rfl rfl ?_
                refine AO.gn rfl rfl rfl ?_
                refine AO.gu rfl rfl rfl ?_
                refine AO.gu rfl rfl rfl ?_
                refine AO.gu rfl rfl rfl ?_
                refine AO.gu rfl rfl rfl ?_
                refine AO.gu rfl rfl rfl ?_
                refine AO.gu rfl rfl rfl ?_
                refine AO.gu rfl rfl rfl ?_
                refine AO.gu rfl rfl rfl ?_
                refine AO.gu rfl rfl rfl ?_
                refine AO.gu rfl rfl rfl ?_
                refine AO.gu rfl rfl rfl ?_
                refine AO.gu rfl rfl rfl ?_
                refine AO.gu rfl rfl rfl ?_
                refine AO.gu rfl rfl rfl ?_
                refine AO.gu rfl rfl rfl ?_
                refine AO.gu rfl rfl rfl ?_
                refine AO.gn rfl rfl rfl ?_
                refine AO.p rfl (p_pickT rfl rfl) ?_
                refine AO.nil ?_
                have S506 := S445.front 0 rfl
                exact ⟨true, (some_inj hd505), S506, Sub.cons' rfl rfl (Sub.cons' rfl rfl (Sub.cons' rfl rfl (Sub.cons' rfl rfl (Sub.nil _))))⟩
              · have hd507 := bif_f c504 hd503
                refine AO.gp rfl rfl rfl (p_move rfl) ?_
                refine AO.gp rfl rfl rfl (p_move rfl) ?_
                refine AO.gp rfl rfl rfl (p_lss rfl rfl) ?_
                refine AO.gp rfl rfl rfl (p_move rfl) ?_
                refine AO.cases (d := 26) rfl (fun c508 => ?_) (fun c508 => ?_)
                · have hd509 := bif_t c508 hd507
                  refine AO.gp rfl rfl rfl (p_move rfl) ?_
                  obtain ⟨k510, hd511⟩ := chk_some hd509
                  refine AO.gp rfl rfl rfl (s_indexAr (q := x323.toNat) Tryd.underlying76 Tryd.sizeOf2 rfl rfl k510 (z1 _)) ?_
                  refine AO.gc rfl rfl rfl (s_load Tryd.isAgg2 rfl (row_cell (S445.get (k := 0) rfl) (ints_get (lt_len h_a1 (inR_lt k510))))) ?_
                  refine AO.gp rfl rfl rfl (p_move rfl) ?_
                  obtain ⟨k512, hd513⟩ := chk_some hd511
                  refine AO.gp rfl rfl rfl (p_subE rfl rfl k512) ?_
                  obtain ⟨b514, h515, hd516⟩ := bnd_some hd513
                  refine AO.gc rfl rfl rfl (o_call (vs := [.int .i64 (rd a1 x323.toNat), .int .i64 0, .int .i64 (a0 - 1)]) rfl Tryd.call55 (W_spec_l01In fu G446 (rd a1 x323.toNat) 0 (a0 - 1) b514 h515)) ?_
                  refine AO.gp rfl rfl rfl (p_not rfl) ?_
                  refine AO.gp rfl rfl rfl (p_move rfl) ?_
                  refine AO.cases (d := 34) rfl (fun c518 => ?_) (fun c518 => ?_)
                  · have hd519 := bif_t c518 hd516
                    refine AO.gn rfl rfl rfl ?_
                    refine AO.gn rfl rfl rfl ?_
                    refine AO.gn rfl rfl rfl ?_
                    refine AO.gn rfl rfl rfl ?_
                    refine AO.gn rfl rfl rfl ?_
                    refine AO.gn rfl rfl rfl ?_
                    refine AO.gn rfl rfl rfl ?_
                    refine AO.gp rfl rfl rfl (p_pickT rfl rfl) ?_
                    refine AO.gp rfl rfl rfl (p_pickT rfl rfl) ?_
                    refine AO.p rfl (p_pickF rfl rfl) ?_
                    refine AO.nil ?_
                    have S520 := S445.front 0 rfl
                    exact ⟨true, (some_inj hd519), S520, Sub.cons' rfl rfl (Sub.cons' rfl rfl (Sub.cons' rfl rfl (Sub.cons' rfl rfl (Sub.nil _))))⟩
                  · have hd521 := bif_f c518 hd516
                    refine AO.gp rfl rfl rfl (p_move rfl) ?_
                    obtain ⟨k522, hd523⟩ := chk_some hd521
                    refine AO.gp rfl rfl rfl (s_indexAr (q := x323.toNat) Tryd.underlying76 Tryd.sizeOf2 rfl rfl k522 (z1 _)) ?_
                    refine AO.gc rfl rfl rfl (s_load Tryd.isAgg2 rfl (row_cell (S445.get (k := 0) rfl) (ints_get (lt_len h_a1 (inR_lt k522))))) ?_
                    obtain ⟨k524, hd525⟩ := chk_some hd523
                    refine AO.gp rfl rfl rfl (s_indexAr (q := (rd a1 x323.toNat).toNat) Tryd.underlying76 Tryd.sizeOf2 rfl rfl k524 (z1 _)) ?_
                    refine AO.gc rfl rfl rfl (s_load Tryd.isAgg2 rfl (row_cell (S445.get (k := 0) rfl) (ints_get (lt_len h_a1 (inR_lt k524))))) ?_
                    refine AO.gp rfl rfl rfl (p_move rfl) ?_
                    refine AO.gp rfl rfl rfl (p_neq rfl rfl) ?_
                    refine AO.gp rfl rfl rfl (p_pickF rfl rfl) ?_
                    refine AO.gp rfl rfl rfl (p_pickT rfl rfl) ?_
                    refine AO.p rfl (p_pickF rfl rfl) ?_
                    refine AO.nil ?_
                    have S526 := S445.front 0 rfl
                    exact ⟨(!decide (rd a1 ((rd a1 x323.toNat).toNat) = x323)), (some_inj hd525), S526, Sub.cons' rfl rfl (Sub.cons' rfl rfl (Sub.cons' rfl rfl (Sub.cons' rfl rfl (Sub.nil _))))⟩
                · have hd527 := bif_f c508 hd507
                  refine AO.gn rfl rfl rfl ?_
                  refine AO.gn rfl rfl rfl ?_
                  refine AO.gn rfl rfl rfl ?_
                  refine AO.gn rfl rfl rfl ?_
                  refine AO.gn rfl rfl rfl ?_
                  refine AO.gn rfl rfl rfl ?_
                  refine AO.gn rfl rfl rfl ?_
                  refine AO.gn rfl rfl rfl ?_
                  refine AO.gu rfl rfl rfl ?_
                  refine AO.gu rfl rfl rfl ?_
                  refine AO.gu rfl rfl rfl ?_
                  refine AO.gu rfl rfl rfl ?_
                  refine AO.gu rfl rfl rfl ?_
                  refine AO.gu rfl rfl rfl ?_
                  refine AO.gu rfl rfl rfl ?_
                  refine AO.gn rfl rfl rfl ?_
                  refine AO.gp rfl rfl rfl (p_pickF rfl rfl) ?_
                  refine AO.p rfl (p_pickF rfl rfl) ?_
                  refine AO.nil ?_
                  have S528 := S445.front 0 rfl
                  exact ⟨false, (some_inj hd527), S528, Sub.cons' rfl rfl (Sub.cons' rfl rfl (Sub.cons' rfl rfl (Sub.cons' rfl rfl (Sub.nil _))))⟩
            · have hd529 := bif_f c500 hb498
              refine AO.gn rfl rfl rfl ?_
              refine AO.gn rfl rfl rfl ?_
              refine AO.gn rfl rfl rfl ?_
              refine AO.gn rfl rfl rfl ?_
              refine AO.p rfl (p_pickF rfl rfl) ?_
              refine AO.p rfl (p_move rfl) ?_
              refine AO.gp rfl rfl rfl (p_move rfl) ?_
              refine AO.gp rfl rfl rfl (p_move rfl) ?_
              refine AO.gp rfl rfl rfl (p_lss rfl rfl) ?_
              refine AO.gp rfl rfl rfl (p_move rfl) ?_
              refine AO.cases (d := 26) rfl (fun c530 => ?_) (fun c530 => ?_)
              · have hd531 := bif_t c530 hd529
                refine AO.gp rfl rfl rfl (p_move rfl) ?_
                obtain ⟨k532, hd533⟩ := chk_some hd531
                refine AO.gp rfl rfl rfl (s_indexAr (q := x323.toNat) Tryd.underlying76 Tryd.sizeOf2 rfl rfl k532 (z1 _)) ?_
                refine AO.gc rfl rfl rfl (s_load Tryd.isAgg2 rfl (row_cell (S445.get (k := 0) rfl) (ints_get (lt_len h_a1 (inR_lt k532))))) ?_
                refine AO.gp rfl rfl rfl (p_move rfl) ?_
                obtain ⟨k534, hd535⟩ := chk_some hd533
                refine AO.gp rfl rfl rfl (p_subE rfl rfl k534) ?_
                obtain ⟨b536, h537, hd538⟩ := bnd_some hd535
                refine AO.gc rfl rfl rfl (o_call (vs := [.int .i64 (rd a1 x323.toNat), .int .i64 0, .int .i64 (a0 - 1)]) rfl Tryd.call55 (W_spec_l01In fu G446 (rd a1 x323.toNat) 0 (a0 - 1) b536 h537)) ?_
                refine AO.gp rfl rfl rfl (p_not rfl) ?_
                refine AO.gp rfl rfl rfl (p_move rfl) ?_
                refine AO.cases (d := 34) rfl (fun c540 => ?_) (fun c540 => ?_)
                · have hd541 := bif_t c540 hd538
                  refine AO.gn rfl rfl rfl ?_
                  refine AO.gn rfl rfl rfl ?_
                  refine AO.gn rfl rfl rfl ?_
                  refine AO.gn rfl rfl rfl ?_
                  refine AO.gn rfl rfl rfl ?_
                  refine AO.gn rfl rfl rfl ?_
                  refine AO.gn rfl rfl rfl ?_
                  refine AO.gp rfl rfl rfl (p_pickT rfl rfl) ?_
                  refine AO.gp rfl rfl rfl (p_pickT rfl rfl) ?_
                  refine AO.p rfl (p_pickF rfl rfl) ?_
                  refine AO.nil ?_
                  have S542 := S445.front 0 rfl
                  exact ⟨true, (some_inj hd541), S542, Sub.cons' rfl rfl (Sub.cons' rfl rfl (Sub.cons' rfl rfl (Sub.cons' rfl rfl (Sub.nil _))))⟩
                · have hd543 := bif_f c540 hd538
                  refine AO.gp rfl rfl rfl (p_move rfl) ?_
                  obtain ⟨k544, hd545⟩ := chk_some hd543
                  refine AO.gp rfl rfl rfl (s_indexAr (q := x323.toNat) Tryd.underlying76 Tryd.sizeOf2 rfl rfl k544 (z1 _)) ?_
                  refine AO.gc rfl rfl rfl (s_load Tryd.isAgg2 rfl (row_cell (S445.get (k := 0) rfl) (ints_get (lt_len h_a1 (inR_lt k544))))) ?_
                  obtain ⟨k546, hd547⟩ := chk_some hd545
                  refine AO.gp rfl rfl rfl (s_indexAr (q := (rd a1 x323.toNat).toNat) Tryd.underlying76 Tryd.sizeOf2 rfl rfl k546 (z1 _)) ?_
                  refine AO.gc rfl rfl rfl (s_load Tryd.isAgg2 rfl (row_cell (S445.get (k := 0) rfl) (ints_get (lt_len h_a1 (inR_lt k546))))) ?_
                  refine AO.gp rfl rfl rfl (p_move rfl) ?_
                  refine AO.gp rfl rfl rfl (p_neq rfl rfl) ?_
                  refine AO.gp rfl rfl rfl (p_pickF rfl rfl) ?_
                  refine AO.gp rfl rfl rfl (p_pickT rfl rfl) ?_
                  refine AO.p rfl (p_pickF rfl rfl) ?_
                  refine AO.nil ?_
                  have S548 := S445.front 0 rfl
                  exact ⟨(!decide (rd a1 ((rd a1 x323.toNat).toNat) = x323)), (some_inj hd547), S548, Sub.cons' rfl rfl (Sub.cons' rfl rfl (Sub.cons' rfl rfl (Sub.cons' rfl rfl (Sub.nil _))))⟩
              · have hd549 := bif_f c530 hd529
                refine AO.gn rfl rfl rfl ?_
                refine AO.gn rfl rfl rfl ?_
                refine AO.gn rfl rfl rfl ?_
                refine AO.gn rfl rfl rfl ?_
                refine AO.gn rfl rfl rfl ?_
                refine AO.gn rfl rfl rfl ?_
                refine AO.gn rfl rfl rfl ?_
                refine AO.gn rfl rfl rfl ?_
                refine AO.gu rfl rfl rfl ?_
                refine AO.gu rfl rfl rfl ?_
                refine AO.gu rfl rfl rfl ?_
                refine AO.gu rfl rfl rfl ?_
                refine AO.gu rfl rfl rfl ?_
                refine AO.gu rfl rfl rfl ?_
                refine AO.gu rfl rfl rfl ?_
                refine AO.gn rfl rfl rfl ?_
                refine AO.gp rfl rfl rfl (p_pickF rfl rfl) ?_
                refine AO.p rfl (p_pickF rfl rfl) ?_
                refine AO.nil ?_
                have S550 := S445.front 0 rfl
                exact ⟨false, (some_inj hd549), S550, Sub.cons' rfl rfl (Sub.cons' rfl rfl (Sub.cons' rfl rfl (Sub.cons' rfl rfl (Sub.nil _))))⟩
          · rintro t' G552 ⟨b496, rfl, S551, hsub553⟩
            refine AX.sub hsub553 ?_
            refine AX.cond rfl (fun c554 => ?_) (fun c554 => ?_)
            · have hd555 := bif_t c554 hd499
              refine AX.seq ?_
              refine AX.region ?_
              refine AO.p rfl (p_assign rfl) ?_
              refine AO.nil ?_
              refine AX.ret ?_
              obtain rfl := some_inj hd555
              have z556 : _ = r438 := hk444
              subst z556
              obtain rfl := some_inj hd440
              exact ⟨.inr rfl, _, res1 rfl (rv_tmp rfl), rfl, (flatB_ok rfl), S551.hold⟩
            · have hd557 := bif_f c554 hd499
              refine AX.skip ?_
              refine AX.region ?_
              refine AO.p rfl (p_move rfl) ?_
              obtain ⟨k558, hd559⟩ := chk_some hd557
              refine AO.p rfl (p_addE rfl rfl k558) ?_
              refine AO.p rfl (p_assign rfl) ?_
              refine AO.nil ?_
              obtain rfl := some_inj hd559
              have S561 := S551.front 0 rfl
              exact ⟨x323 + 1, hk444, (x323 + 1), rfl, S561, Sub.cons' rfl rfl (Sub.cons' rfl rfl (Sub.cons' rfl rfl (Sub.nil _)))⟩
        · have hd562 := bif_f c449 ho443
          refine AX.exit ?_
          obtain rfl := some_inj hd562
          have S563 := S445.keep 0
          exact ⟨hk444, S563, Sub.nil _⟩
    · rintro t' G565 ⟨rfl, S564, hsub566⟩
      refine ⟨_, hsub566, ?_⟩
      refine AX.seq ?_
      refine AX.region ?_
      refine AO.p rfl (p_assign rfl) ?_
      refine AO.nil ?_
      refine AX.ret ?_
      obtain rfl := some_inj hd440
      exact ⟨.inr rfl, _, res1 rfl (rv_tmp rfl), rfl, (flatB_ok rfl), S564.hold⟩

set_option maxHeartbeats 4000000 in
theorem W_impl_IsRound (fu : Nat) (H : AHeap) (a0 : Int) (a1 : List Int) (h_a1 : a1.length = 14) (r0 : Bool) (hd : D_impl_IsRound fu a0 a1 = some r0) : ACall Tryd.prog 84 [.int .i64 a0, .agg (ints a1).toArray] H (.bool r0) H := by
  refine ACall.bodyP (N := 42) [(0, .int .i64 a0), (1, .agg (ints a1).toArray)] Tryd.func84 rfl rfl rfl rfl ?_
  unfold D_impl_IsRound at hd
  have S0 : St [] H H [] := St.nil H
  refine AX.seq ?_
  refine AX.region ?_
  obtain ⟨G100, i101, hii101, hHG100, S102⟩ := S0.new (AObj.row false (ints a1))
  refine AO.c rfl (s_box (i := i101) (cs := ints a1) rfl hii101 rfl hHG100) ?_
  refine AO.p rfl (p_assign rfl) ?_
  refine AO.nil ?_
  refine AX.seq ?_
  refine AX.seq ?_
  refine AX.region ?_
  refine AO.p rfl (p_move rfl) ?_
  obtain ⟨b104, h105, hd106⟩ := bnd_some hd
  refine AO.c rfl (o_call (vs := [.int .i64 a0, .int .i64 2, .int .i64 14]) rfl Tryd.call46 (W_impl_between fu G100 a0 2 14 b104 h105)) ?_
  refine AO.p rfl (p_not rfl) ?_
  refine AO.nil ?_
  refine AX.cond rfl (fun c108 => ?_) (fun c108 => ?_)
  · have hd109 := bif_t c108 hd106
    refine AX.seq ?_
    refine AX.region ?_
    refine AO.p rfl (p_assign rfl) ?_
    refine AO.nil ?_
    refine AX.ret ?_
    obtain rfl := some_inj hd109
    exact ⟨.inr rfl, _, res1 rfl (rv_tmp rfl), rfl, (flatB_ok rfl), S102.hold⟩
  · have hd110 := bif_f c108 hd106
    refine AX.skip ?_
    refine AX.seq ?_
    refine AX.seq ?_
    refine AX.region ?_
    refine AO.c rfl (s_loadN (vs := ints a1) Tryd.isAgg76 Tryd.sizeOf76 rfl (ints_len h_a1) (row_cells (S102.get (k := 0) rfl))) ?_
    refine AO.p rfl (p_move rfl) ?_
    refine AO.nil ?_
    obtain ⟨r402, hl403, hd404⟩ := bnd_some hd110
    refine AX.cutS (fun t' H' => .inl () = r402 ∧ St [] H H' [] ∧ Am.Sub [] t') ?_ ?_
    · refine AX.block ?_
      refine AX.loopF (fun s' t' H' => ∃ (x305 : Int), x305 = s' ∧ St [] H H' [[(i101, AObj.row false (ints a1))]] ∧ Am.Sub [(0, .int .i64 a0), (3, .pointer (some ⟨i101, 0, none⟩)), (10, .agg (ints a1).toArray), (11, .int .i64 x305)] t') hl403 ?_ ?_
      · skip
        have S405 := S102.front 0 rfl
        exact ⟨0, rfl, S405, Sub.cons' rfl rfl (Sub.cons' rfl rfl (Sub.cons' rfl rfl (Sub.cons' rfl rfl (Sub.nil _))))⟩
      · rintro n406 _ t' G410 ⟨x305, rfl, S409, hsub411⟩ o412 ho407 hk408
        refine AX.sub hsub411 ?_
        unfold D_impl_IsRound_s0 at ho407
        refine AX.seq ?_
        refine AX.region ?_
        refine AO.p rfl (p_lss rfl rfl) ?_
        refine AO.nil ?_
        refine AX.seq ?_
        refine AX.cond rfl (fun c413 => ?_) (fun c413 => ?_)
        · have hd414 := bif_t c413 ho407
          refine AX.skip ?_
          refine AX.seq ?_
          refine AX.block ?_
          refine AX.seq ?_
          refine AX.region ?_
          refine AO.p rfl (p_move rfl) ?_
          obtain ⟨k415, hd416⟩ := chk_some hd414
          refine AO.p rfl (s_indexAv Tryd.underlying76 Tryd.sizeOf2 Tryd.isAgg2 rfl rfl k415 h_a1) ?_
          refine AO.p rfl (p_assign rfl) ?_
          refine AO.p rfl (p_assign rfl) ?_
          refine AO.nil ?_
          obtain ⟨r453, hb454, hd455⟩ := bnd_some hd416
          refine AX.cut (fun t' H' => ∃ (b452 : Bool), b452 = r453 ∧ St [] H H' [[(i101, AObj.row false (ints a1))]] ∧ Am.Sub [(0, .int .i64 a0), (3, .pointer (some ⟨i101, 0, none⟩)), (10, .agg (ints a1).toArray), (11, .int .i64 x305), (40, .bool b452)] t') ?_ ?_
          · skip
            refine AX.region ?_
            refine AO.p rfl (p_move rfl) ?_
            refine AO.p rfl (p_move rfl) ?_
            refine AO.p rfl (p_geq rfl rfl) ?_
            refine AO.p rfl (p_move rfl) ?_
            refine AO.cases (d := 18) rfl (fun c456 => ?_) (fun c456 => ?_)
            · have hd457 := bif_t c456 hb454
              refine AO.gp rfl rfl rfl (p_move rfl) ?_
              refine AO.gp rfl rfl rfl (p_neq rfl rfl) ?_
              refine AO.p rfl (p_pickT rfl rfl) ?_
              refine AO.p rfl (p_move rfl) ?_
              refine AO.cases (d := 22) rfl (fun c458 => ?_) (fun c458 => ?_)
              · have hd459 := bif_t c458 hd457
                refine AO.gn rfl rfl rfl ?_
                refine AO.gn rfl rfl rfl ?_
                refine AO.gn rfl rfl rfl ?_
                refine AO.gn rfl rfl rfl ?_
                refine AO.gu rfl rfl rfl ?_
                refine AO.gu rfl rfl rfl ?_
                refine AO.gu rfl rfl rfl ?_
                refine AO.gu rfl rfl rfl ?_
                refine AO.gu rfl rfl rfl ?_
                refine AO.gu rfl rfl rfl ?_
                refine AO.gu rfl rfl rfl ?_
                refine AO.gu rfl rfl rfl ?_
                refine AO.gu rfl rfl rfl ?_
                refine AO.gu rfl rfl rfl ?_
                refine AO.gu rfl rfl rfl ?_
                refine AO.gu rfl rfl rfl ?_
                refine AO.gn rfl rfl rfl ?_
                refine AO.p rfl (p_pickT rfl rfl) ?_
                refine AO.nil ?_
                have S460 := S409.front 0 rfl
                exact ⟨true, (some_inj hd459), S460, Sub.cons' rfl rfl (Sub.cons' rfl rfl (Sub.cons' rfl rfl (Sub.cons' rfl rfl (Sub.cons' rfl rfl (Sub.nil _)))))⟩
              · have hd461 := bif_f c458 hd457
                refine AO.gp rfl rfl rfl (p_move rfl) ?_
                refine AO.gp rfl rfl rfl (p_move rfl) ?_
                refine AO.gp rfl rfl rfl (p_lss rfl rfl) ?_
                refine AO.gp rfl rfl rfl (p_move rfl) ?_
                refine AO.cases (d := 26) rfl (fun c462 => ?_) (fun c462 => ?_)
                · have hd463 := bif_t c462 hd461
                  refine AO.gp rfl rfl rfl (p_move rfl) ?_
                  refine AO.gp rfl rfl rfl (p_move rfl) ?_
                  obtain ⟨k464, hd465⟩ := chk_some hd463
                  refine AO.gp rfl rfl rfl (p_subE rfl rfl k464) ?_
                  obtain ⟨b466, h467, hd468⟩ := bnd_some hd465
                  refine AO.gc rfl rfl rfl (o_call (vs := [.int .i64 (rd a1 x305.toNat), .int .i64 0, .int .i64 (a0 - 1)]) rfl Tryd.call46 (W_impl_between fu G410 (rd a1 x305.toNat) 0 (a0 - 1) b466 h467)) ?_
                  refine AO.gp rfl rfl rfl (p_not rfl) ?_
                  refine AO.gp rfl rfl rfl (p_move rfl) ?_
                  refine AO.cases (d := 32) rfl (fun c470 => ?_) (fun c470 => ?_)
                  · have hd471 := bif_t c470 hd468
                    refine AO.gn rfl rfl rfl ?_
                    refine AO.gn rfl rfl rfl ?_
                    refine AO.gn rfl rfl rfl ?_
                    refine AO.gn rfl rfl rfl ?_
                    refine AO.gn rfl rfl rfl ?_
                    refine AO.gp rfl rfl rfl (p_pickT rfl rfl) ?_
                    refine AO.gp rfl rfl rfl (p_pickT rfl rfl) ?_
                    refine AO.p rfl (p_pickF rfl rfl) ?_
                    refine AO.nil ?_
                    have S472 := S409.front 0 rfl
                    exact ⟨true, (some_inj hd471), S472, Sub.cons' rfl rfl (Sub.cons' rfl rfl (Sub.cons' rfl rfl (Sub.cons' rfl rfl (Sub.cons' rfl rfl (Sub.nil _)))))⟩
                  · have hd473 := bif_f c470 hd468
                    refine AO.gp rfl rfl rfl (p_move rfl) ?_
                    obtain ⟨k474, hd475⟩ := chk_some hd473
                    refine AO.gp rfl rfl rfl (s_indexAr (q := (rd a1 x305.toNat).toNat) Tryd.underlying76 Tryd.sizeOf2 rfl rfl k474 (z1 _)) ?_
                    refine AO.gc rfl rfl rfl (s_load Tryd.isAgg2 rfl (row_cell (S409.get (k := 0) rfl) (ints_get (lt_len h_a1 (inR_lt k474))))) ?_
                    refine AO.gp rfl rfl rfl (p_move rfl) ?_
                    refine AO.gp rfl rfl rfl (p_neq rfl rfl) ?_
                    refine AO.gp rfl rfl rfl (p_pickF rfl rfl) ?_
                    refine AO.gp rfl rfl rfl (p_pickT rfl rfl) ?_
                    refine AO.p rfl (p_pickF rfl rfl) ?_
                    refine AO.nil ?_
                    have S476 := S409.front 0 rfl
                    exact ⟨(!decide (rd a1 ((rd a1 x305.toNat).toNat) = x305)), (some_inj hd475), S476, Sub.cons' rfl rfl (Sub.cons' rfl rfl (Sub.cons' rfl rfl (Sub.cons' rfl rfl (Sub.cons' rfl rfl (Sub.nil _)))))⟩
                · have hd477 := bif_f c462 hd461
                  refine AO.gn rfl rfl rfl ?_
                  refine AO.gn rfl rfl rfl ?_
                  refine AO.gn rfl rfl rfl ?_
                  refine AO.gn rfl rfl rfl ?_
                  refine AO.gn rfl rfl rfl ?_
                  refine AO.gn rfl rfl rfl ?_
                  refine AO.gu rfl rfl rfl ?_
                  refine AO.gu rfl rfl rfl ?_
                  refine AO.gu rfl rfl rfl ?_
                  refine AO.gu rfl rfl rfl ?_
                  refine AO.gu rfl rfl rfl ?_
                  refine AO.gn rfl rfl rfl ?_
                  refine AO.gp rfl rfl rfl (p_pickF rfl rfl) ?_
                  refine AO.p rfl (p_pickF rfl rfl) ?_
                  refine AO.nil ?_
                  have S478 := S409.front 0 rfl
                  exact ⟨false, (some_inj hd477), S478, Sub.cons' rfl rfl (Sub.cons' rfl rfl (Sub.cons' rfl rfl (Sub.cons' rfl rfl (Sub.cons' rfl rfl (Sub.nil _)))))⟩
            · have hd479 := bif_f c456 hb454
              refine AO.gn rfl rfl rfl ?_
              refine AO.gn rfl rfl rfl ?_
              refine AO.p rfl (p_pickF rfl rfl) ?_
              refine AO.p rfl (p_move rfl) ?_
              refine AO.gp rfl rfl rfl (p_move rfl) ?_
              refine AO.gp rfl rfl rfl (p_move rfl) ?_
              refine AO.gp rfl rfl rfl (p_lss rfl rfl) ?_
              refine AO.gp rfl rfl rfl (p_move rfl) ?_
              refine AO.cases (d := 26) rfl (fun c480 => ?_) (fun c480 => ?_)
              · have hd481 := bif_t c480 hd479
                refine AO.gp rfl rfl rfl (p_move rfl) ?_
                refine AO.gp rfl rfl rfl (p_move rfl) ?_
                obtain ⟨k482, hd483⟩ := chk_some hd481
                refine AO.gp rfl rfl rfl (p_subE rfl rfl k482) ?_
                obtain ⟨b484, h485, hd486⟩ := bnd_some hd483
                refine AO.gc rfl rfl rfl (o_call (vs := [.int .i64 (rd a1 x305.toNat), .int .i64 0, .int .i64 (a0 - 1)]) rfl Tryd.call46 (W_impl_between fu G410 (rd a1 x305.toNat) 0 (a0 - 1) b484 h485)) ?_
                refine AO.gp rfl rfl rfl (p_not rfl) ?_
                refine AO.gp rfl rfl rfl (p_move rfl) ?_
                refine AO.cases (d := 32) rfl (fun c488 => ?_) (fun c488 => ?_)
                · have hd489 := bif_t c488 hd486
                  refine AO.gn rfl rfl rfl ?_
                  refine AO.gn rfl rfl rfl ?_
                  refine AO.gn rfl rfl rfl ?_
                  refine AO.gn rfl rfl rfl ?_
                  refine AO.gn rfl rfl rfl ?_
                  refine AO.gp rfl rfl rfl (p_pickT rfl rfl) ?_
                  refine AO.gp rfl rfl rfl (p_pickT rfl rfl) ?_
                  refine AO.p rfl (p_pickF rfl rfl) ?_
                  refine AO.nil ?_
                  have S490 := S409.front 0 rfl
                  exact ⟨true, (some_inj hd489), S490, Sub.cons' rfl rfl (Sub.cons' rfl rfl (Sub.cons' rfl rfl (Sub.cons' rfl rfl (Sub.cons' rfl rfl (Sub.nil _)))))⟩
                · have hd491 := bif_f c488 hd486
                  refine AO.gp rfl rfl rfl (p_move rfl) ?_
                  obtain ⟨k492, hd493⟩ := chk_some hd491
                  refine AO.gp rfl rfl rfl (s_indexAr (q := (rd a1 x305.toNat).toNat) Tryd.underlying76 Tryd.sizeOf2 rfl rfl k492 (z1 _)) ?_
                  refine AO.gc rfl rfl rfl (s_load Tryd.isAgg2 rfl (row_cell (S409.get (k := 0) rfl) (ints_get (lt_len h_a1 (inR_lt k492))))) ?_
                  refine AO.gp rfl rfl rfl (p_move rfl) ?_
                  refine AO.gp rfl rfl rfl (p_neq rfl rfl) ?_
                  refine AO.gp rfl rfl rfl (p_pickF rfl rfl) ?_
                  refine AO.gp rfl rfl rfl (p_pickT rfl rfl) ?_
                  refine AO.p rfl (p_pickF rfl rfl) ?_
                  refine AO.nil ?_
                  have S494 := S409.front 0 rfl
                  exact ⟨(!decide (rd a1 ((rd a1 x305.toNat).toNat) = x305)), (some_inj hd493), S494, Sub.cons' rfl rfl (Sub.cons' rfl rfl (Sub.cons' rfl rfl (Sub.cons' rfl rfl (Sub.cons' rfl rfl (Sub.nil _)))))⟩
              · have hd495 := bif_f c480 hd479
                refine AO.gn rfl rfl rfl ?_
                refine AO.gn rfl rfl rfl ?_
                refine AO.gn rfl rfl rfl ?_
                refine AO.gn rfl rfl rfl ?_
                refine AO.gn rfl rfl rfl ?_
                refine AO.gn rfl rfl rfl ?_
                refine AO.gu rfl rfl rfl ?_
                refine AO.gu rfl rfl rfl ?_
                refine AO.gu rfl rfl rfl ?_
                refine AO.gu rfl rfl rfl ?_
                refine AO.gu rfl rfl rfl ?_
                refine AO.gn rfl rfl rfl ?_
                refine AO.gp rfl rfl rfl (p_pickF rfl rfl) ?_
                refine AO.p rfl (p_pickF rfl rfl) ?_
                refine AO.nil ?_
                have S496 := S409.front 0 rfl
                exact ⟨false, (some_inj hd495), S496, Sub.cons' rfl rfl (Sub.cons' rfl rfl (Sub.cons' rfl rfl (Sub.cons' rfl rfl (Sub.cons' rfl rfl (Sub.nil _)))))⟩
          · rintro t' G498 ⟨b452, rfl, S497, hsub499⟩
            refine AX.sub hsub499 ?_
            refine AX.cond rfl (fun c500 => ?_) (fun c500 => ?_)
            · have hd501 := bif_t c500 hd455
              refine AX.seq ?_
              refine AX.region ?_
              refine AO.p rfl (p_assign rfl) ?_
              refine AO.nil ?_
              refine AX.ret ?_
              obtain rfl := some_inj hd501
              have z502 : _ = r402 := hk408
              subst z502
              obtain rfl := some_inj hd404
              exact ⟨.inr rfl, _, res1 rfl (rv_tmp rfl), rfl, (flatB_ok rfl), S497.hold⟩
            · have hd503 := bif_f c500 hd455
              refine AX.skip ?_
              refine AX.region ?_
              obtain ⟨k504, hd505⟩ := chk_some hd503
              refine AO.p rfl (p_addE rfl rfl k504) ?_
              refine AO.p rfl (p_move rfl) ?_
              refine AO.nil ?_
              obtain rfl := some_inj hd505
              have S507 := S497.front 0 rfl
              exact ⟨x305 + 1, hk408, (x305 + 1), rfl, S507, Sub.cons' rfl rfl (Sub.cons' rfl rfl (Sub.cons' rfl rfl (Sub.cons' rfl rfl (Sub.nil _))))⟩
        · have hd508 := bif_f c413 ho407
          refine AX.exit ?_
          obtain rfl := some_inj hd508
          have S509 := S409.keep 0
          exact ⟨hk408, S509, Sub.nil _⟩
    · rintro t' G511 ⟨rfl, S510, hsub512⟩
      refine ⟨_, hsub512, ?_⟩
      refine AX.seq ?_
      refine AX.region ?_
      refine AO.p rfl (p_assign rfl) ?_
      refine AO.nil ?_
      refine AX.ret ?_
      obtain rfl := some_inj hd404
      exact ⟨.inr rfl, _, res1 rfl (rv_tmp rfl), rfl, (flatB_ok rfl), S510.hold⟩

set_option maxHeartbeats 4000000 in
theorem W_impl_free (fu : Nat) (H : AHeap) (a0 : Int) (r0 : List Int) (hd : D_impl_free fu a0 = some r0) : ACall Tryd.prog 80 [.int .i64 a0] H (.agg (ints r0).toArray) H ∧ r0.length = 14 := by
  refine ACall.bodyPF (N := 15) [(0, .int .i64 a0)] Tryd.func80 rfl rfl rfl rfl ?_
  unfold D_impl_free at hd
  have S0 : St [] H H [] := St.nil H
  refine AX.seq ?_
  refine AX.region ?_
  obtain ⟨G100, i101, hii101, hHG100, S102⟩ := S0.new (AObj.row false (ints (List.replicate 14 0)))
  refine AO.c rfl (s_alloc (i := i101) (cs := ints (List.replicate 14 0)) Tryd.zeroValue76 rfl rfl hii101 hHG100) ?_
  refine AO.nil ?_
  refine AX.seq ?_
  refine AX.region ?_
  refine AO.p rfl (p_buildZ (z := ints (List.replicate 14 0)) Tryd.underlying76 Tryd.sizeOf2 Tryd.zeroValue76 rfl) ?_
  obtain ⟨G104, i105, hii105, hHG104, S106⟩ := S102.new (AObj.row false (ints (List.replicate 14 0)))
  refine AO.c rfl (s_alloc (i := i105) (cs := ints (List.replicate 14 0)) Tryd.zeroValue76 rfl rfl hii105 hHG104) ?_
  obtain ⟨G108, hHG108, S109⟩ := S106.set (k := 0) (i := i105) rfl (AObj.row false (ints (List.replicate 14 0)))
  refine AO.s (s_storeAll (vs := ints (List.replicate 14 0)) Tryd.sizeOf76 rfl rfl ints_one (S106.get (k := 0) rfl) (ints_len len_rep) (ints_len len_rep) hHG108) ?_
  refine AO.nil ?_
  refine AX.seq ?_
  refine AX.seq ?_
  refine AX.region ?_
  refine AO.p rfl (p_move rfl) ?_
  refine AO.p rfl (p_move rfl) ?_
  refine AO.nil ?_
  obtain ⟨r157, hl158, hd159⟩ := bnd_some hd
  refine AX.cutS (fun t' H' => ∃ (xs156 : List Int), xs156 = r157 ∧ St [] H H' [[(i101, AObj.row false (ints (List.replicate 14 0)))], [(i105, AObj.row false (ints xs156))]] ∧ xs156.length = 14 ∧ Am.Sub [(2, .pointer (some ⟨i101, 0, none⟩)), (3, .pointer (some ⟨i105, 0, none⟩))] t') ?_ ?_
  · refine AX.block ?_
    refine AX.loopF (fun s' t' H' => ∃ (xs140 : List Int) (x141 : Int), (xs140, x141) = s' ∧ St [] H H' [[(i101, AObj.row false (ints (List.replicate 14 0)))], [(i105, AObj.row false (ints xs140))]] ∧ xs140.length = 14 ∧ Am.Sub [(2, .pointer (some ⟨i101, 0, none⟩)), (3, .pointer (some ⟨i105, 0, none⟩)), (6, .int .i64 a0), (7, .int .i64 x141)] t') hl158 ?_ ?_
    · skip
      have S160 := S109.front 0 rfl
      have S161 := S160.front 1 rfl
      exact ⟨(List.replicate 14 0), 0, rfl, S161, len_rep, Sub.cons' rfl rfl (Sub.cons' rfl rfl (Sub.cons' rfl rfl (Sub.cons' rfl rfl (Sub.nil _))))⟩
    · rintro n162 _ t' G166 ⟨xs140, x141, rfl, S165, lxs140, hsub167⟩ o168 ho163 hk164
      refine AX.sub hsub167 ?_
      unfold D_impl_free_s0 at ho163
      refine AX.seq ?_
      refine AX.region ?_
      refine AO.p rfl (p_lss rfl rfl) ?_
      refine AO.nil ?_
      refine AX.seq ?_
      refine AX.cond rfl (fun c169 => ?_) (fun c169 => ?_)
      · have hd170 := bif_t c169 ho163
        refine AX.skip ?_
        refine AX.seq ?_
        refine AX.block ?_
        refine AX.seq ?_
        refine AX.region ?_
        refine AO.p rfl (p_move rfl) ?_
        refine AO.p rfl (p_assign rfl) ?_
        refine AO.nil ?_
        refine AX.region ?_
        refine AO.p rfl (p_move rfl) ?_
        refine AO.p rfl (p_move rfl) ?_
        obtain ⟨k171, hd172⟩ := chk_some hd170
        refine AO.p rfl (s_indexAr (q := x141.toNat) Tryd.underlying76 Tryd.sizeOf2 rfl rfl k171 (z1 _)) ?_
        obtain ⟨G173, hHG173, S174⟩ := S165.set (k := 1) (i := i105) rfl (AObj.row false (ints (xs140.set x141.toNat x141)))
        refine AO.s (s_store Tryd.sizeOf2 rfl rfl rfl (S165.get (k := 1) rfl) (lt_len (ints_len lxs140) (inR_lt k171)) ((congrArg (fun l => List.set _ _ (AObj.row false l)) (ints_set _ _ _)).trans hHG173)) ?_
        refine AO.nil ?_
        refine AX.region ?_
        obtain ⟨k175, hd176⟩ := chk_some hd172
        refine AO.p rfl (p_addE rfl rfl k175) ?_
        refine AO.p rfl (p_move rfl) ?_
        refine AO.nil ?_
        obtain rfl := some_inj hd176
        have S178 := S174.front 1 rfl
        have S179 := S178.front 1 rfl
        exact ⟨((xs140.set x141.toNat x141), x141 + 1), hk164, (xs140.set x141.toNat x141), (x141 + 1), rfl, S179, (len_set lxs140), Sub.cons' rfl rfl (Sub.cons' rfl rfl (Sub.cons' rfl rfl (Sub.cons' rfl rfl (Sub.nil _))))⟩
      · have hd180 := bif_f c169 ho163
        refine AX.exit ?_
        obtain rfl := some_inj hd180
        have S181 := S165.front 1 rfl
        have S182 := S181.front 1 rfl
        exact ⟨xs140, hk164, S182, lxs140, Sub.cons' rfl rfl (Sub.cons' rfl rfl (Sub.nil _))⟩
  · rintro t' G184 ⟨xs156, rfl, S183, lxs156, hsub185⟩
    refine ⟨_, hsub185, ?_⟩
    refine AX.seq ?_
    refine AX.region ?_
    refine AO.c rfl (s_loadN (vs := ints xs156) Tryd.isAgg76 Tryd.sizeOf76 rfl (ints_len lxs156) (row_cells (S183.get (k := 1) rfl))) ?_
    obtain ⟨G186, hHG186, S187⟩ := S183.set (k := 0) (i := i101) rfl (AObj.row false (ints xs156))
    refine AO.s (s_storeAll (vs := ints xs156) Tryd.sizeOf76 rfl rfl ints_one (S183.get (k := 0) rfl) (ints_len lxs156) (ints_len len_rep) hHG186) ?_
    refine AO.nil ?_
    refine AX.ret ?_
    obtain rfl := some_inj hd159
    exact ⟨.inr rfl, _, res1 rfl (rv_cell (vs := ints xs156) rfl Tryd.isAgg76 Tryd.sizeOf76 (ints_len lxs156) (row_cells (S187.get (k := 0) rfl))), rfl, (flat_arr _), S187.hold, lxs156⟩

set_option maxHeartbeats 4000000 in
theorem W_spec_l01Free (fu : Nat) (H : AHeap) (a0 : Int) (r0 : List Int) (hd : D_spec_l01Free fu a0 = some r0) : ACall Tryd.prog 130 [.int .i64 a0] H (.agg (ints r0).toArray) H ∧ r0.length = 14 := by
  refine ACall.bodyPF (N := 15) [(0, .int .i64 a0)] Tryd.func130 rfl rfl rfl rfl ?_
  unfold D_spec_l01Free at hd
  have S0 : St [] H H [] := St.nil H
  refine AX.seq ?_
  refine AX.region ?_
  obtain ⟨G100, i101, hii101, hHG100, S102⟩ := S0.new (AObj.row false (ints (List.replicate 14 0)))
  refine AO.c rfl (s_alloc (i := i101) (cs := ints (List.replicate 14 0)) Tryd.zeroValue76 rfl rfl hii101 hHG100) ?_
  refine AO.nil ?_
  refine AX.seq ?_
  refine AX.region ?_
  refine AO.p rfl (p_buildZ (z := ints (List.replicate 14 0)) Tryd.underlying76 Tryd.sizeOf2 Tryd.zeroValue76 rfl) ?_
  obtain ⟨G104, i105, hii105, hHG104, S106⟩ := S102.new (AObj.row false (ints (List.replicate 14 0)))
  refine AO.c rfl (s_alloc (i := i105) (cs := ints (List.replicate 14 0)) Tryd.zeroValue76 rfl rfl hii105 hHG104) ?_
  obtain ⟨G108, hHG108, S109⟩ := S106.set (k := 0) (i := i105) rfl (AObj.row false (ints (List.replicate 14 0)))
  refine AO.s (s_storeAll (vs := ints (List.replicate 14 0)) Tryd.sizeOf76 rfl rfl ints_one (S106.get (k := 0) rfl) (ints_len len_rep) (ints_len len_rep) hHG108) ?_
  refine AO.nil ?_
  refine AX.seq ?_
  refine AX.seq ?_
  refine AX.region ?_
  refine AO.p rfl (p_assign rfl) ?_
  refine AO.nil ?_
  obtain ⟨r157, hl158, hd159⟩ := bnd_some hd
  refine AX.cutS (fun t' H' => ∃ (xs156 : List Int), xs156 = r157 ∧ St [] H H' [[(i101, AObj.row false (ints (List.replicate 14 0)))], [(i105, AObj.row false (ints xs156))]] ∧ xs156.length = 14 ∧ Am.Sub [(2, .pointer (some ⟨i101, 0, none⟩)), (3, .pointer (some ⟨i105, 0, none⟩))] t') ?_ ?_
  · refine AX.block ?_
    refine AX.loopF (fun s' t' H' => ∃ (xs140 : List Int) (x141 : Int), (xs140, x141) = s' ∧ St [] H H' [[(i101, AObj.row false (ints (List.replicate 14 0)))], [(i105, AObj.row false (ints xs140))]] ∧ xs140.length = 14 ∧ Am.Sub [(0, .int .i64 a0), (2, .pointer (some ⟨i101, 0, none⟩)), (3, .pointer (some ⟨i105, 0, none⟩)), (4, .int .i64 x141)] t') hl158 ?_ ?_
    · skip
      have S160 := S109.front 0 rfl
      have S161 := S160.front 1 rfl
      exact ⟨(List.replicate 14 0), 0, rfl, S161, len_rep, Sub.cons' rfl rfl (Sub.cons' rfl rfl (Sub.cons' rfl rfl (Sub.cons' rfl rfl (Sub.nil _))))⟩
    · rintro n162 _ t' G166 ⟨xs140, x141, rfl, S165, lxs140, hsub167⟩ o168 ho163 hk164
      refine AX.sub hsub167 ?_
      unfold D_spec_l01Free_s0 at ho163
      refine AX.seq ?_
      refine AX.seq ?_
      refine AX.region ?_
      refine AO.p rfl (p_move rfl) ?_
      refine AO.p rfl (p_move rfl) ?_
      refine AO.p rfl (p_lss rfl rfl) ?_
      refine AO.nil ?_
      refine AX.cond rfl (fun c169 => ?_) (fun c169 => ?_)
      · have hd170 := bif_t c169 ho163
        refine AX.skip ?_
        refine AX.seq ?_
        refine AX.block ?_
        refine AX.region ?_
        refine AO.p rfl (p_move rfl) ?_
        refine AO.p rfl (p_move rfl) ?_
        obtain ⟨k171, hd172⟩ := chk_some hd170
        refine AO.p rfl (s_indexAr (q := x141.toNat) Tryd.underlying76 Tryd.sizeOf2 rfl rfl k171 (z1 _)) ?_
        obtain ⟨G173, hHG173, S174⟩ := S165.set (k := 1) (i := i105) rfl (AObj.row false (ints (xs140.set x141.toNat x141)))
        refine AO.s (s_store Tryd.sizeOf2 rfl rfl rfl (S165.get (k := 1) rfl) (lt_len (ints_len lxs140) (inR_lt k171)) ((congrArg (fun l => List.set _ _ (AObj.row false l)) (ints_set _ _ _)).trans hHG173)) ?_
        refine AO.nil ?_
        refine AX.region ?_
        refine AO.p rfl (p_move rfl) ?_
        obtain ⟨k175, hd176⟩ := chk_some hd172
        refine AO.p rfl (p_addE rfl rfl k175) ?_
        refine AO.p rfl (p_assign rfl) ?_
        refine AO.nil ?_
        obtain rfl := some_inj hd176
        have S178 := S174.front 1 rfl
        have S179 := S178.front 1 rfl
        exact ⟨((xs140.set x141.toNat x141), x141 + 1), hk164, (xs140.set x141.toNat x141), (x141 + 1), rfl, S179, (len_set lxs140), Sub.cons' rfl rfl (Sub.cons' rfl rfl (Sub.cons' rfl rfl (Sub.cons' rfl rfl (Sub.nil _))))⟩
      · have hd180 := bif_f c169 ho163
        refine AX.exit ?_
        obtain rfl := some_inj hd180
        have S181 := S165.front 1 rfl
        have S182 := S181.front 1 rfl
        exact ⟨xs140, hk164, S182, lxs140, Sub.cons' rfl rfl (Sub.cons' rfl rfl (Sub.nil _))⟩
  · rintro t' G184 ⟨xs156, rfl, S183, lxs156, hsub185⟩
    refine ⟨_, hsub185, ?_⟩
    refine AX.seq ?_
    refine AX.region ?_
    refine AO.c rfl (s_loadN (vs := ints xs156) Tryd.isAgg76 Tryd.sizeOf76 rfl (ints_len lxs156) (row_cells (S183.get (k := 1) rfl))) ?_
    obtain ⟨G186, hHG186, S187⟩ := S183.set (k := 0) (i := i101) rfl (AObj.row false (ints xs156))
    refine AO.s (s_storeAll (vs := ints xs156) Tryd.sizeOf76 rfl rfl ints_one (S183.get (k := 0) rfl) (ints_len lxs156) (ints_len len_rep) hHG186) ?_
    refine AO.nil ?_
    refine AX.ret ?_
    obtain rfl := some_inj hd159
    exact ⟨.inr rfl, _, res1 rfl (rv_cell (vs := ints xs156) rfl Tryd.isAgg76 Tryd.sizeOf76 (ints_len lxs156) (row_cells (S187.get (k := 0) rfl))), rfl, (flat_arr _), S187.hold, lxs156⟩

set_option maxHeartbeats 4000000 in
theorem W_impl_Round_meet (fu : Nat) (H : AHeap) (i_a0 : Nat) (a0 : List Int) (h_a0 : a0.length = 14) (o_a0 : hget H i_a0 = .row false (ints a0)) (a1 : Int) (a2 : Int) (m_a0 : List Int) (hd : D_impl_Round_meet fu a0 a1 a2 = some m_a0) : ∃ v G', ACall Tryd.prog 81 [.pointer (some ⟨i_a0, 0, none⟩), .int .i64 a1, .int .i64 a2] H v G' ∧ (v = .tuple #[]) ∧ St [i_a0] H G' [[(i_a0, AObj.row false (ints m_a0))]] ∧ m_a0.length = 14 := by
  refine ACall.bodyX (args := [.pointer (some ⟨i_a0, 0, none⟩), .int .i64 a1, .int .i64 a2]) (N := 16) [(0, .pointer (some ⟨i_a0, 0, none⟩)), (1, .int .i64 a1), (2, .int .i64 a2)] (fun v G' => (v = .tuple #[]) ∧ St [i_a0] H G' [[(i_a0, AObj.row false (ints m_a0))]] ∧ m_a0.length = 14) Tryd.func81 rfl rfl rfl rfl ?_
  unfold D_impl_Round_meet at hd
  have S0 : St [i_a0] H H [[(i_a0, AObj.row false (ints a0))]] := St.init (l := [(i_a0, AObj.row false (ints a0))]) (by simp) (by intro x hx; rw [List.mem_singleton.1 hx]; exact ⟨row_lt o_a0, o_a0⟩)
  refine DR.startS [false, false, false, false, false, false, false, false, true, false, false, true] mix (by kernel_rfl) (fun hst => ?_)
  refine DR.p rfl rfl (p_move rfl) ?_
  refine DR.p rfl rfl (p_move rfl) ?_
  refine DR.p rfl rfl (p_move rfl) ?_
  refine DR.p rfl rfl (p_move rfl) ?_
  refine DR.p rfl rfl (p_move rfl) ?_
  refine DR.p rfl rfl (p_move rfl) ?_
  refine DR.p rfl rfl (p_nilCheck rfl) ?_
  obtain ⟨k100, hd101⟩ := chk_some hd
  refine DR.p rfl rfl (s_indexAr (q := a1.toNat) Tryd.underlying76 Tryd.sizeOf2 rfl rfl k100 (z1 _)) ?_
  obtain ⟨G102, hHG102, S103⟩ := S0.set (k := 0) (i := i_a0) rfl (AObj.row false (ints (a0.set a1.toNat a2)))
  refine DR.s rfl (s_store Tryd.sizeOf2 rfl rfl rfl (S0.get (k := 0) rfl) (lt_len (ints_len h_a0) (inR_lt k100)) ((congrArg (fun l => List.set _ _ (AObj.row false l)) (ints_set _ _ _)).trans hHG102)) (set_le hHG102) ?_
  refine DR.p rfl rfl (p_nilCheck rfl) ?_
  obtain ⟨k104, hd105⟩ := chk_some hd101
  refine DR.p rfl rfl (s_indexAr (q := a2.toNat) Tryd.underlying76 Tryd.sizeOf2 rfl rfl k104 (z1 _)) ?_
  obtain ⟨G106, hHG106, S107⟩ := S103.set (k := 0) (i := i_a0) rfl (AObj.row false (ints ((a0.set a1.toNat a2).set a2.toNat a1)))
  refine DR.s rfl (s_store Tryd.sizeOf2 rfl rfl rfl (S103.get (k := 0) rfl) (lt_len (ints_len (len_set h_a0)) (inR_lt k104)) ((congrArg (fun l => List.set _ _ (AObj.row false l)) (ints_set _ _ _)).trans hHG106)) (set_le hHG106) ?_
  refine DR.nil 12 [] hst (by kernel_rfl) trivial ?_
  obtain rfl := some_inj hd105
  have S108 := S107.front 0 rfl
  exact ⟨.inl rfl, _, res_none rfl, rfl, S108, (len_set (len_set h_a0))⟩

set_option maxHeartbeats 4000000 in
theorem W_impl_always (fu : Nat) (H : AHeap)  (r0 : Bool) (hd : D_impl_always fu = some r0) : ACall Tryd.prog 37 [] H (.bool r0) H := by
  refine ACall.bodyP (N := 1) [] Tryd.func37 rfl rfl rfl rfl ?_
  unfold D_impl_always at hd
  have S0 : St [] H H [] := St.nil H
  refine AX.seq ?_
  refine AX.region ?_
  refine AO.p rfl (p_assign rfl) ?_
  refine AO.nil ?_
  refine AX.seq ?_
  refine AX.region ?_
  refine AO.p rfl (p_assign rfl) ?_
  refine AO.nil ?_
  refine AX.ret ?_
  obtain rfl := some_inj hd
  exact ⟨.inr rfl, _, res1 rfl (rv_tmp rfl), rfl, (flatB_ok rfl), S0.hold⟩

end Go.Proofs.YtfiilgnebmidbaaDoor
