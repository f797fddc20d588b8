/-
 The program computes that, printed by a program. No condition.
-/
import Derived.Test.YtdafmafigcljkaaDA
import Derived.Test.YtdafmafigcljkaaK5
import Derived.Test.YtdafmafigcljkaaProg
import Derived.KernelRfl
namespace Go.Proofs.Ytdafmafigcljkaa
open Go Go.RowKit Am
set_option linter.unusedVariables false
set_option linter.unusedSimpArgs false
set_option maxRecDepth 20000
theorem mix : Try.prog.follows .mixedOrders = true := by kernel_rfl
set_option maxHeartbeats 4000000 in
theorem W_spec_l01In (fu : Nat) (H : AHeap) (a0 : Int) (a1 : Int) (a2 : Int) (r0 : Bool) (hd : D_spec_l01In fu a0 a1 a2 = some r0) : ACall Try.prog 50 [.int .i64 a0, .int .i64 a1, .int .i64 a2] H (.bool r0) H := by
 refine ACall.bodyP (N := 15) [(0, .int .i64 a0), (1, .int .i64 a1), (2, .int .i64 a2)] Try.func50 rfl rfl rfl rfl ?_
 unfold D_spec_l01In at hd
 have S0 : St [] H H [] := St.nil H
 refine AX.seq ?_
 refine AX.region ?_
 refine AO.p rfl (p_assign rfl) ?_
 refine AO.nil ?_
 refine AX.cut (fun t' H' => H = H' ∧ Am.Sub [(6, .bool ((decide (a1 ≤ a0)) && (decide (a0 ≤ a2))))] t') ?_ ?_
 ·skip
  refine AX.region ?_
  refine AO.p rfl (p_move rfl) ?_
  refine AO.p rfl (p_move rfl) ?_
  refine AO.p rfl (p_geq rfl rfl) ?_
  refine AO.p rfl (p_move rfl) ?_
  refine AO.cases (d := 10) rfl (fun c103 => ?_) (fun c103 => ?_)
  ·skip
   refine AO.gp rfl rfl rfl (p_move rfl) ?_
   refine AO.gp rfl rfl rfl (p_move rfl) ?_
   refine AO.gp rfl rfl rfl (p_leq rfl rfl) ?_
   refine AO.p rfl (p_pickT rfl rfl) ?_
   refine AO.p rfl (p_assign rfl) ?_
   refine AO.nil ?_
   exact ⟨rfl, Sub.cons' rfl (bool_eq (by simp only [c103, Bool.true_and, Bool.false_and, Bool.and_true, Bool.and_false, Bool.true_or, Bool.false_or, Bool.or_true, Bool.or_false, Bool.not_true, Bool.not_false, cond_true, cond_false])) (Sub.nil _)⟩
  ·skip
   refine AO.gn rfl rfl rfl ?_
   refine AO.gn rfl rfl rfl ?_
   refine AO.gn rfl rfl rfl ?_
   refine AO.p rfl (p_pickF rfl rfl) ?_
   refine AO.p rfl (p_assign rfl) ?_
   refine AO.nil ?_
   exact ⟨rfl, Sub.cons' rfl (bool_eq (by simp only [c103, Bool.true_and, Bool.false_and, Bool.and_true, Bool.and_false, Bool.true_or, Bool.false_or, Bool.or_true, Bool.or_false, Bool.not_true, Bool.not_false, cond_true, cond_false])) (Sub.nil _)⟩
 ·rintro t' _ ⟨rfl, hsub104⟩
  refine AX.sub hsub104 ?_
  refine AX.ret ?_
  obtain rfl := some_inj hd
  exact ⟨.inr rfl, _, res1 rfl (rv_tmp rfl), rfl, (flatB_ok rfl), S0.hold⟩

set_option maxHeartbeats 4000000 in
theorem W_impl_between (fu : Nat) (H : AHeap) (a0 : Int) (a1 : Int) (a2 : Int) (r0 : Bool) (hd : D_impl_between fu a0 a1 a2 = some r0) : ACall Try.prog 52 [.int .i64 a0, .int .i64 a1, .int .i64 a2] H (.bool r0) H := by
 refine ACall.bodyP (N := 15) [(0, .int .i64 a0), (1, .int .i64 a1), (2, .int .i64 a2)] Try.func52 rfl rfl rfl rfl ?_
 unfold D_impl_between at hd
 have S0 : St [] H H [] := St.nil H
 refine AX.seq ?_
 refine AX.region ?_
 refine AO.p rfl (p_assign rfl) ?_
 refine AO.nil ?_
 refine AX.cut (fun t' H' => H = H' ∧ Am.Sub [(6, .bool ((decide (a1 ≤ a0)) && (decide (a0 ≤ a2))))] t') ?_ ?_
 ·skip
  refine AX.region ?_
  refine AO.p rfl (p_move rfl) ?_
  refine AO.p rfl (p_move rfl) ?_
  refine AO.p rfl (p_geq rfl rfl) ?_
  refine AO.p rfl (p_move rfl) ?_
  refine AO.cases (d := 10) rfl (fun c103 => ?_) (fun c103 => ?_)
  ·skip
   refine AO.gp rfl rfl rfl (p_move rfl) ?_
   refine AO.gp rfl rfl rfl (p_move rfl) ?_
   refine AO.gp rfl rfl rfl (p_leq rfl rfl) ?_
   refine AO.p rfl (p_pickT rfl rfl) ?_
   refine AO.p rfl (p_assign rfl) ?_
   refine AO.nil ?_
   exact ⟨rfl, Sub.cons' rfl (bool_eq (by simp only [c103, Bool.true_and, Bool.false_and, Bool.and_true, Bool.and_false, Bool.true_or, Bool.false_or, Bool.or_true, Bool.or_false, Bool.not_true, Bool.not_false, cond_true, cond_false])) (Sub.nil _)⟩
  ·skip
   refine AO.gn rfl rfl rfl ?_
   refine AO.gn rfl rfl rfl ?_
   refine AO.gn rfl rfl rfl ?_
   refine AO.p rfl (p_pickF rfl rfl) ?_
   refine AO.p rfl (p_assign rfl) ?_
   refine AO.nil ?_
   exact ⟨rfl, Sub.cons' rfl (bool_eq (by simp only [c103, Bool.true_and, Bool.false_and, Bool.and_true, Bool.and_false, Bool.true_or, Bool.false_or, Bool.or_true, Bool.or_false, Bool.not_true, Bool.not_false, cond_true, cond_false])) (Sub.nil _)⟩
 ·rintro t' _ ⟨rfl, hsub104⟩
  refine AX.sub hsub104 ?_
  refine AX.ret ?_
  obtain rfl := some_inj hd
  exact ⟨.inr rfl, _, res1 rfl (rv_tmp rfl), rfl, (flatB_ok rfl), S0.hold⟩

set_option maxHeartbeats 4000000 in
theorem W_spec_l01Round (fu : Nat) (H : AHeap) (a0 : Int) (a1 : List Int) (h_a1 : a1.length = 14) (r0 : Bool) (hd : D_spec_l01Round fu a0 a1 = some r0) : ACall Try.prog 118 [.int .i64 a0, .agg (ints a1).toArray] H (.bool r0) H := by
 refine ACall.bodyP (N := 45) [(0, .int .i64 a0), (1, .agg (ints a1).toArray)] Try.func118 rfl rfl rfl rfl ?_
 unfold D_spec_l01Round at hd
 have S0 : St [] H H [] := St.nil H
 refine AX.seq ?_
 refine AX.region ?_
 obtain ⟨G100, i101, hii101, hHG100, S102⟩ := S0.new (AObj.row false (ints a1))
 refine AO.c rfl (s_box (i := i101) (cs := ints a1) rfl hii101 rfl hHG100) ?_
 refine AO.p rfl (p_assign rfl) ?_
 refine AO.nil ?_
 refine AX.seq ?_
 refine AX.seq ?_
 refine AX.region ?_
 refine AO.p rfl (p_move rfl) ?_
 obtain ⟨b104, h105, hd106⟩ := bnd_some hd
 refine AO.c rfl (o_call (vs := [.int .i64 a0, .int .i64 2, .int .i64 14]) rfl Try.call50 (W_spec_l01In fu G100 a0 2 14 b104 h105)) ?_
 refine AO.p rfl (p_not rfl) ?_
 refine AO.nil ?_
 refine AX.cond rfl (fun c108 => ?_) (fun c108 => ?_)
 ·have hd109 := bif_t c108 hd106
  refine AX.seq ?_
  refine AX.region ?_
  refine AO.p rfl (p_assign rfl) ?_
  refine AO.nil ?_
  refine AX.ret ?_
  obtain rfl := some_inj hd109
  exact ⟨.inr rfl, _, res1 rfl (rv_tmp rfl), rfl, (flatB_ok rfl), S102.hold⟩
 ·have hd110 := bif_f c108 hd106
  refine AX.skip ?_
  refine AX.seq ?_
  refine AX.seq ?_
  refine AX.region ?_
  refine AO.p rfl (p_assign rfl) ?_
  refine AO.nil ?_
  obtain ⟨r438, hl439, hd440⟩ := bnd_some hd110
  refine AX.cutS (fun t' H' => .inl () = r438 ∧ St [] H H' [] ∧ Am.Sub [] t') ?_ ?_
  ·refine AX.block ?_
   refine AX.loopF (fun s' t' H' => ∃ (x323 : Int), x323 = s' ∧ St [] H H' [[(i101, AObj.row false (ints a1))]] ∧ Am.Sub [(0, .int .i64 a0), (3, .pointer (some ⟨i101, 0, none⟩)), (5, .int .i64 x323)] t') hl439 ?_ ?_
   ·skip
    have S441 := S102.front 0 rfl
    exact ⟨0, rfl, S441, Sub.cons' rfl rfl (Sub.cons' rfl rfl (Sub.cons' rfl rfl (Sub.nil _)))⟩
   ·rintro n442 _ t' G446 ⟨x323, rfl, S445, hsub447⟩ o448 ho443 hk444
    refine AX.sub hsub447 ?_
    unfold D_spec_l01Round_s0 at ho443
    refine AX.seq ?_
    refine AX.seq ?_
    refine AX.region ?_
    refine AO.p rfl (p_move rfl) ?_
    refine AO.p rfl (p_lss rfl rfl) ?_
    refine AO.nil ?_
    refine AX.cond rfl (fun c449 => ?_) (fun c449 => ?_)
    ·have hd450 := bif_t c449 ho443
     refine AX.skip ?_
     refine AX.seq ?_
     refine AX.block ?_
     obtain ⟨r497, hb498, hd499⟩ := bnd_some hd450
     refine AX.cut (fun t' H' => ∃ (b496 : Bool), b496 = r497 ∧ St [] H H' [[(i101, AObj.row false (ints a1))]] ∧ Am.Sub [(0, .int .i64 a0), (3, .pointer (some ⟨i101, 0, none⟩)), (5, .int .i64 x323), (44, .bool b496)] t') ?_ ?_
     ·skip
      refine AX.region ?_
      refine AO.p rfl (p_move rfl) ?_
      refine AO.p rfl (p_move rfl) ?_
      refine AO.p rfl (p_geq rfl rfl) ?_
      refine AO.p rfl (p_move rfl) ?_
      refine AO.cases (d := 16) rfl (fun c500 => ?_) (fun c500 => ?_)
      ·have hd501 := bif_t c500 hb498
       refine AO.gp rfl rfl rfl (p_move rfl) ?_
       obtain ⟨k502, hd503⟩ := chk_some hd501
       refine AO.gp rfl rfl rfl (s_indexAr (q := x323.toNat) Try.underlying54 Try.sizeOf2 rfl rfl k502 (z1 _)) ?_
       refine AO.gc rfl rfl rfl (s_load Try.isAgg2 rfl (row_cell (S445.get (k := 0) rfl) (ints_get (lt_len h_a1 (inR_lt k502))))) ?_
       refine AO.gp rfl rfl rfl (p_neq rfl rfl) ?_
       refine AO.p rfl (p_pickT rfl rfl) ?_
       refine AO.p rfl (p_move rfl) ?_
       refine AO.cases (d := 22) rfl (fun c504 => ?_) (fun c504 => ?_)
       ·have hd505 := bif_t c504 hd503
        refine AO.gn rfl rfl rfl ?_
        refine AO.gn rfl rfl rfl ?_
        refine AO.gn rfl rfl rfl ?_
        refine AO.gn rfl rfl rfl ?_
        refine AO.gu rfl rfl rfl ?_
        refine AO.gu rfl rfl rfl ?_
        refine AO.gu rfl rfl rfl ?_
        refine AO.gu rfl rfl rfl ?_
        refine AO.gu rfl rfl rfl ?_
        refine AO.gu rfl rfl rfl ?_
        refine AO.gu rfl rfl rfl ?_
        refine AO.gu rfl rfl rfl ?_
        refine AO.gu rfl rfl rfl ?_
        refine AO.gu rfl rfl rfl ?_
        refine AO.gu rfl rfl rfl ?_
        refine AO.gu rfl rfl rfl ?_
        refine AO.gu rfl rfl rfl ?_
        refine AO.gu rfl rfl rfl ?_
        refine AO.gu rfl rfl rfl ?_
        refine AO.gu rfl rfl rfl ?_
        refine AO.gn rfl rfl rfl ?_
        refine AO.p rfl (p_pickT rfl rfl) ?_
        refine AO.nil ?_
        have S506 := S445.front 0 rfl
        exact ⟨true, (some_inj hd505), S506, Sub.cons' rfl rfl (Sub.cons' rfl rfl (Sub.cons' rfl rfl (Sub.cons' rfl rfl (Sub.nil _))))⟩
       ·have hd507 := bif_f c504 hd503
        refine AO.gp rfl rfl rfl (p_move rfl) ?_
        refine AO.gp rfl rfl rfl (p_move rfl) ?_
        refine AO.gp rfl rfl rfl (p_lss rfl rfl) ?_
        refine AO.gp rfl rfl rfl (p_move rfl) ?_
        refine AO.cases (d := 26) rfl (fun c508 => ?_) (fun c508 => ?_)
        ·have hd509 := bif_t c508 hd507
         refine AO.gp rfl rfl rfl (p_move rfl) ?_
         obtain ⟨k510, hd511⟩ := chk_some hd509
         refine AO.gp rfl rfl rfl (s_indexAr (q := x323.toNat) Try.underlying54 Try.sizeOf2 rfl rfl k510 (z1 _)) ?_
         refine AO.gc rfl rfl rfl (s_load Try.isAgg2 rfl (row_cell (S445.get (k := 0) rfl) (ints_get (lt_len h_a1 (inR_lt k510))))) ?_
         refine AO.gp rfl rfl rfl (p_move rfl) ?_
         obtain ⟨k512, hd513⟩ := chk_some hd511
         refine AO.gp rfl rfl rfl (p_subE rfl rfl k512) ?_
         obtain ⟨b514, h515, hd516⟩ := bnd_some hd513
         refine AO.gc rfl rfl rfl (o_call (vs := [.int .i64 (rd a1 x323.toNat), .int .i64 0, .int .i64 (a0 - 1)]) rfl Try.call50 (W_spec_l01In fu G446 (rd a1 x323.toNat) 0 (a0 - 1) b514 h515)) ?_
         refine AO.gp rfl rfl rfl (p_not rfl) ?_
         refine AO.gp rfl rfl rfl (p_move rfl) ?_
         refine AO.cases (d := 34) rfl (fun c518 => ?_) (fun c518 => ?_)
         ·have hd519 := bif_t c518 hd516
          refine AO.gn rfl rfl rfl ?_
          refine AO.gn rfl rfl rfl ?_
          refine AO.gn rfl rfl rfl ?_
          refine AO.gn rfl rfl rfl ?_
          refine AO.gn rfl rfl rfl ?_
          refine AO.gn rfl rfl rfl ?_
          refine AO.gn rfl rfl rfl ?_
          refine AO.gp rfl rfl rfl (p_pickT rfl rfl) ?_
          refine AO.gp rfl rfl rfl (p_pickT rfl rfl) ?_
          refine AO.p rfl (p_pickF rfl rfl) ?_
          refine AO.nil ?_
          have S520 := S445.front 0 rfl
          exact ⟨true, (some_inj hd519), S520, Sub.cons' rfl rfl (Sub.cons' rfl rfl (Sub.cons' rfl rfl (Sub.cons' rfl rfl (Sub.nil _))))⟩
         ·have hd521 := bif_f c518 hd516
          refine AO.gp rfl rfl rfl (p_move rfl) ?_
          obtain ⟨k522, hd523⟩ := chk_some hd521
          refine AO.gp rfl rfl rfl (s_indexAr (q := x323.toNat) Try.underlying54 Try.sizeOf2 rfl rfl k522 (z1 _)) ?_
          refine AO.gc rfl rfl rfl (s_load Try.isAgg2 rfl (row_cell (S445.get (k := 0) rfl) (ints_get (lt_len h_a1 (inR_lt k522))))) ?_
          obtain ⟨k524, hd525⟩ := chk_some hd523
          refine AO.gp rfl rfl rfl (s_indexAr (q := (rd a1 x323.toNat).toNat) Try.underlying54 Try.sizeOf2 rfl rfl k524 (z1 _)) ?_
          refine AO.gc rfl rfl rfl (s_load Try.isAgg2 rfl (row_cell (S445.get (k := 0) rfl) (ints_get (lt_len h_a1 (inR_lt k524))))) ?_
          refine AO.gp rfl rfl rfl (p_move rfl) ?_
          refine AO.gp rfl rfl rfl (p_neq rfl rfl) ?_
          refine AO.gp rfl rfl rfl (p_pickF rfl rfl) ?_
          refine AO.gp rfl rfl rfl (p_pickT rfl rfl) ?_
          refine AO.p rfl (p_pickF rfl rfl) ?_
          refine AO.nil ?_
          have S526 := S445.front 0 rfl
          exact ⟨(!decide (rd a1 ((rd a1 x323.toNat).toNat) = x323)), (some_inj hd525), S526, Sub.cons' rfl rfl (Sub.cons' rfl rfl (Sub.cons' rfl rfl (Sub.cons' rfl rfl (Sub.nil _))))⟩
        ·have hd527 := bif_f c508 hd507
         refine AO.gn rfl rfl rfl ?_
         refine AO.gn rfl rfl rfl ?_
         refine AO.gn rfl rfl rfl ?_
         refine AO.gn rfl rfl rfl ?_
         refine AO.gn rfl rfl rfl ?_
         refine AO.gn rfl rfl rfl ?_
         refine AO.gn rfl rfl rfl ?_
         refine AO.gn rfl rfl rfl ?_
         refine AO.gu rfl rfl rfl ?_
         refine AO.gu rfl rfl rfl ?_
         refine AO.gu rfl rfl rfl ?_
         refine AO.gu rfl rfl rfl ?_
         refine AO.gu rfl rfl rfl ?_
         refine AO.gu rfl rfl rfl ?_
         refine AO.gu rfl rfl rfl ?_
         refine AO.gn rfl rfl rfl ?_
         refine AO.gp rfl rfl rfl (p_pickF rfl rfl) ?_
         refine AO.p rfl (p_pickF rfl rfl) ?_
         refine AO.nil ?_
         have S528 := S445.front 0 rfl
         exact ⟨false, (some_inj hd527), S528, Sub.cons' rfl rfl (Sub.cons' rfl rfl (Sub.cons' rfl rfl (Sub.cons' rfl rfl (Sub.nil _))))⟩
      ·have hd529 := bif_f c500 hb498
       refine AO.gn rfl rfl rfl ?_
       refine AO.gn rfl rfl rfl ?_
       refine AO.gn rfl rfl rfl ?_
       refine AO.gn rfl rfl rfl ?_
       refine AO.p rfl (p_pickF rfl rfl) ?_
       refine AO.p rfl (p_move rfl) ?_
       refine AO.gp rfl rfl rfl (p_move rfl) ?_
       refine AO.gp rfl rfl rfl (p_move rfl) ?_
       refine AO.gp rfl rfl rfl (p_lss rfl rfl) ?_
       refine AO.gp rfl rfl rfl (p_move rfl) ?_
       refine AO.cases (d := 26) rfl (fun c530 => ?_) (fun c530 => ?_)
       ·have hd531 := bif_t c530 hd529
        refine AO.gp rfl rfl rfl (p_move rfl) ?_
        obtain ⟨k532, hd533⟩ := chk_some hd531
        refine AO.gp rfl rfl rfl (s_indexAr (q := x323.toNat) Try.underlying54 Try.sizeOf2 rfl rfl k532 (z1 _)) ?_
        refine AO.gc rfl rfl rfl (s_load Try.isAgg2 rfl (row_cell (S445.get (k := 0) rfl) (ints_get (lt_len h_a1 (inR_lt k532))))) ?_
        refine AO.gp rfl rfl rfl (p_move rfl) ?_
        obtain ⟨k534, hd535⟩ := chk_some hd533
        refine AO.gp rfl rfl rfl (p_subE rfl rfl k534) ?_
        obtain ⟨b536, h537, hd538⟩ := bnd_some hd535
        refine AO.gc rfl rfl rfl (o_call (vs := [.int .i64 (rd a1 x323.toNat), .int .i64 0, .int .i64 (a0 - 1)]) rfl Try.call50 (W_spec_l01In fu G446 (rd a1 x323.toNat) 0 (a0 - 1) b536 h537)) ?_
        refine AO.gp rfl rfl rfl (p_not rfl) ?_
        refine AO.gp rfl rfl rfl (p_move rfl) ?_
        refine AO.cases (d := 34) rfl (fun c540 => ?_) (fun c540 => ?_)
        ·have hd541 := bif_t c540 hd538
         refine AO.gn rfl rfl rfl ?_
         refine AO.gn rfl rfl rfl ?_
         refine AO.gn rfl rfl rfl ?_
         refine AO.gn rfl rfl rfl ?_
         refine AO.gn rfl rfl rfl ?_
         refine AO.gn rfl rfl rfl ?_
         refine AO.gn rfl rfl rfl ?_
         refine AO.gp rfl rfl rfl (p_pickT rfl rfl) ?_
         refine AO.gp rfl rfl rfl (p_pickT rfl rfl) ?_
         refine AO.p rfl (p_pickF rfl rfl) ?_
         refine AO.nil ?_
         have S542 := S445.front 0 rfl
         exact ⟨true, (some_inj hd541), S542, Sub.cons' rfl rfl (Sub.cons' rfl rfl (Sub.cons' rfl rfl (Sub.cons' rfl rfl (Sub.nil _))))⟩
        ·have hd543 := bif_f c540 hd538
         refine AO.gp rfl rfl rfl (p_move rfl) ?_
         obtain ⟨k544, hd545⟩ := chk_some hd543
         refine AO.gp rfl rfl rfl (s_indexAr (q := x323.toNat) Try.underlying54 Try.sizeOf2 rfl rfl k544 (z1 _)) ?_
         refine AO.gc rfl rfl rfl (s_load Try.isAgg2 rfl (row_cell (S445.get (k := 0) rfl) (ints_get (lt_len h_a1 (inR_lt k544))))) ?_
         obtain ⟨k546, hd547⟩ := chk_some hd545
         refine AO.gp rfl rfl rfl (s_indexAr (q := (rd a1 x323.toNat).toNat) Try.underlying54 Try.sizeOf2 rfl rfl k546 (z1 _)) ?_
         refine AO.gc rfl rfl rfl (s_load Try.isAgg2 rfl (row_cell (S445.get (k := 0) rfl) (ints_get (lt_len h_a1 (inR_lt k546))))) ?_
         refine AO.gp rfl rfl rfl (p_move rfl) ?_
         refine AO.gp rfl rfl rfl (p_neq rfl rfl) ?_
         refine AO.gp rfl rfl rfl (p_pickF rfl rfl) ?_
         refine AO.gp rfl rfl rfl (p_pickT rfl rfl) ?_
         refine AO.p rfl (p_pickF rfl rfl) ?_
         refine AO.nil ?_
         have S548 := S445.front 0 rfl
         exact ⟨(!decide (rd a1 ((rd a1 x323.toNat).toNat) = x323)), (some_inj hd547), S548, Sub.cons' rfl rfl (Sub.cons' rfl rfl (Sub.cons' rfl rfl (Sub.cons' rfl rfl (Sub.nil _))))⟩
       ·have hd549 := bif_f c530 hd529
        refine AO.gn rfl rfl rfl ?_
        refine AO.gn rfl rfl rfl ?_
        refine AO.gn rfl rfl rfl ?_
        refine AO.gn rfl rfl rfl ?_
        refine AO.gn rfl rfl rfl ?_
        refine AO.gn rfl rfl rfl ?_
        refine AO.gn rfl rfl rfl ?_
        refine AO.gn rfl rfl rfl ?_
        refine AO.gu rfl rfl rfl ?_
        refine AO.gu rfl rfl rfl ?_
        refine AO.gu rfl rfl rfl ?_
        refine AO.gu rfl rfl rfl ?_
        refine AO.gu rfl rfl rfl ?_
        refine AO.gu rfl rfl rfl ?_
        refine AO.gu rfl rfl rfl ?_
        refine AO.gn rfl rfl rfl ?_
        refine AO.gp rfl rfl rfl (p_pickF rfl rfl) ?_
        refine AO.p rfl (p_pickF rfl rfl) ?_
        refine AO.nil ?_
        have S550 := S445.front 0 rfl
        exact ⟨false, (some_inj hd549), S550, Sub.cons' rfl rfl (Sub.cons' rfl rfl (Sub.cons' rfl rfl (Sub.cons' rfl rfl (Sub.nil _))))⟩
     ·rintro t' G552 ⟨b496, rfl, S551, hsub553⟩
      refine AX.sub hsub553 ?_
      refine AX.cond rfl (fun c554 => ?_) (fun c554 => ?_)
      ·have hd555 := bif_t c554 hd499
       refine AX.seq ?_
       refine AX.region ?_
       refine AO.p rfl (p_assign rfl) ?_
       refine AO.nil ?_
       refine AX.ret ?_
       obtain rfl := some_inj hd555
       have z556 : _ = r438 := hk444
       subst z556
       obtain rfl := some_inj hd440
       exact ⟨.inr rfl, _, res1 rfl (rv_tmp rfl), rfl, (flatB_ok rfl), S551.hold⟩
      ·have hd557 := bif_f c554 hd499
       refine AX.skip ?_
       refine AX.region ?_
       refine AO.p rfl (p_move rfl) ?_
       obtain ⟨k558, hd559⟩ := chk_some hd557
       refine AO.p rfl (p_addE rfl rfl k558) ?_
       refine AO.p rfl (p_assign rfl) ?_
       refine AO.nil ?_
       obtain rfl := some_inj hd559
       have S561 := S551.front 0 rfl
       exact ⟨x323 + 1, hk444, (x323 + 1), rfl, S561, Sub.cons' rfl rfl (Sub.cons' rfl rfl (Sub.cons' rfl rfl (Sub.nil _)))⟩
    ·have hd562 := bif_f c449 ho443
     refine AX.exit ?_
     obtain rfl := some_inj hd562
     have S563 := S445.keep 0
     exact ⟨hk444, S563, Sub.nil _⟩
  ·rintro t' G565 ⟨rfl, S564, hsub566⟩
   refine ⟨_, hsub566, ?_⟩
   refine AX.seq ?_
   refine AX.region ?_
   refine AO.p rfl (p_assign rfl) ?_
   refine AO.nil ?_
   refine AX.ret ?_
   obtain rfl := some_inj hd440
   exact ⟨.inr rfl, _, res1 rfl (rv_tmp rfl), rfl, (flatB_ok rfl), S564.hold⟩

set_option maxHeartbeats 4000000 in
theorem W_impl_IsRound (fu : Nat) (H : AHeap) (a0 : Int) (a1 : List Int) (h_a1 : a1.length = 14) (r0 : Bool) (hd : D_impl_IsRound fu a0 a1 = some r0) : ACall Try.prog 139 [.int .i64 a0, .agg (ints a1).toArray] H (.bool r0) H := by
 refine ACall.bodyP (N := 42) [(0, .int .i64 a0), (1, .agg (ints a1).toArray)] Try.func139 rfl rfl rfl rfl ?_
 unfold D_impl_IsRound at hd
 have S0 : St [] H H [] := St.nil H
 refine AX.seq ?_
 refine AX.region ?_
 obtain ⟨G100, i101, hii101, hHG100, S102⟩ := S0.new (AObj.row false (ints a1))
 refine AO.c rfl (s_box (i := i101) (cs := ints a1) rfl hii101 rfl hHG100) ?_
 refine AO.p rfl (p_assign rfl) ?_
 refine AO.nil ?_
 refine AX.seq ?_
 refine AX.seq ?_
 refine AX.region ?_
 refine AO.p rfl (p_move rfl) ?_
 obtain ⟨b104, h105, hd106⟩ := bnd_some hd
 refine AO.c rfl (o_call (vs := [.int .i64 a0, .int .i64 2, .int .i64 14]) rfl Try.call52 (W_impl_between fu G100 a0 2 14 b104 h105)) ?_
 refine AO.p rfl (p_not rfl) ?_
 refine AO.nil ?_
 refine AX.cond rfl (fun c108 => ?_) (fun c108 => ?_)
 ·have hd109 := bif_t c108 hd106
  refine AX.seq ?_
  refine AX.region ?_
  refine AO.p rfl (p_assign rfl) ?_
  refine AO.nil ?_
  refine AX.ret ?_
  obtain rfl := some_inj hd109
  exact ⟨.inr rfl, _, res1 rfl (rv_tmp rfl), rfl, (flatB_ok rfl), S102.hold⟩
 ·have hd110 := bif_f c108 hd106
  refine AX.skip ?_
  refine AX.seq ?_
  refine AX.seq ?_
  refine AX.region ?_
  refine AO.c rfl (s_loadN (vs := ints a1) Try.isAgg54 Try.sizeOf54 rfl (ints_len h_a1) (row_cells (S102.get (k := 0) rfl))) ?_
  refine AO.p rfl (p_move rfl) ?_
  refine AO.nil ?_
  obtain ⟨r402, hl403, hd404⟩ := bnd_some hd110
  refine AX.cutS (fun t' H' => .inl () = r402 ∧ St [] H H' [] ∧ Am.Sub [] t') ?_ ?_
  ·refine AX.block ?_
   refine AX.loopF (fun s' t' H' => ∃ (x305 : Int), x305 = s' ∧ St [] H H' [[(i101, AObj.row false (ints a1))]] ∧ Am.Sub [(0, .int .i64 a0), (3, .pointer (some ⟨i101, 0, none⟩)), (10, .agg (ints a1).toArray), (11, .int .i64 x305)] t') hl403 ?_ ?_
   ·skip
    have S405 := S102.front 0 rfl
    exact ⟨0, rfl, S405, Sub.cons' rfl rfl (Sub.cons' rfl rfl (Sub.cons' rfl rfl (Sub.cons' rfl rfl (Sub.nil _))))⟩
   ·rintro n406 _ t' G410 ⟨x305, rfl, S409, hsub411⟩ o412 ho407 hk408
    refine AX.sub hsub411 ?_
    unfold D_impl_IsRound_s0 at ho407
    refine AX.seq ?_
    refine AX.region ?_
    refine AO.p rfl (p_lss rfl rfl) ?_
    refine AO.nil ?_
    refine AX.seq ?_
    refine AX.cond rfl (fun c413 => ?_) (fun c413 => ?_)
    ·have hd414 := bif_t c413 ho407
     refine AX.skip ?_
     refine AX.seq ?_
     refine AX.block ?_
     refine AX.seq ?_
     refine AX.region ?_
     refine AO.p rfl (p_move rfl) ?_
     obtain ⟨k415, hd416⟩ := chk_some hd414
     refine AO.p rfl (s_indexAv Try.underlying54 Try.sizeOf2 Try.isAgg2 rfl rfl k415 h_a1) ?_
     refine AO.p rfl (p_assign rfl) ?_
     refine AO.p rfl (p_assign rfl) ?_
     refine AO.nil ?_
     obtain ⟨r453, hb454, hd455⟩ := bnd_some hd416
     refine AX.cut (fun t' H' => ∃ (b452 : Bool), b452 = r453 ∧ St [] H H' [[(i101, AObj.row false (ints a1))]] ∧ Am.Sub [(0, .int .i64 a0), (3, .pointer (some ⟨i101, 0, none⟩)), (10, .agg (ints a1).toArray), (11, .int .i64 x305), (40, .bool b452)] t') ?_ ?_
     ·skip
      refine AX.region ?_
      refine AO.p rfl (p_move rfl) ?_
      refine AO.p rfl (p_move rfl) ?_
      refine AO.p rfl (p_geq rfl rfl) ?_
      refine AO.p rfl (p_move rfl) ?_
      refine AO.cases (d := 18) rfl (fun c456 => ?_) (fun c456 => ?_)
      ·have hd457 := bif_t c456 hb454
       refine AO.gp rfl rfl rfl (p_move rfl) ?_
       refine AO.gp rfl rfl rfl (p_neq rfl rfl) ?_
       refine AO.p rfl (p_pickT rfl rfl) ?_
       refine AO.p rfl (p_move rfl) ?_
       refine AO.cases (d := 22) rfl (fun c458 => ?_) (fun c458 => ?_)
       ·have hd459 := bif_t c458 hd457
        refine AO.gn rfl rfl rfl ?_
        refine AO.gn rfl rfl rfl ?_
        refine AO.gn rfl rfl rfl ?_
        refine AO.gn rfl rfl rfl ?_
        refine AO.gu rfl rfl rfl ?_
        refine AO.gu rfl rfl rfl ?_
        refine AO.gu rfl rfl rfl ?_
        refine AO.gu rfl rfl rfl ?_
        refine AO.gu rfl rfl rfl ?_
        refine AO.gu rfl rfl rfl ?_
        refine AO.gu rfl rfl rfl ?_
        refine AO.gu rfl rfl rfl ?_
        refine AO.gu rfl rfl rfl ?_
        refine AO.gu rfl rfl rfl ?_
        refine AO.gu rfl rfl rfl ?_
        refine AO.gu rfl rfl rfl ?_
        refine AO.gn rfl rfl rfl ?_
        refine AO.p rfl (p_pickT rfl rfl) ?_
        refine AO.nil ?_
        have S460 := S409.front 0 rfl
        exact ⟨true, (some_inj hd459), S460, Sub.cons' rfl rfl (Sub.cons' rfl rfl (Sub.cons' rfl rfl (Sub.cons' rfl rfl (Sub.cons' rfl rfl (Sub.nil _)))))⟩
       ·have hd461 := bif_f c458 hd457
        refine AO.gp rfl rfl rfl (p_move rfl) ?_
        refine AO.gp rfl rfl rfl (p_move rfl) ?_
        refine AO.gp rfl rfl rfl (p_lss rfl rfl) ?_
        refine AO.gp rfl rfl rfl (p_move rfl) ?_
        refine AO.cases (d := 26) rfl (fun c462 => ?_) (fun c462 => ?_)
        ·have hd463 := bif_t c462 hd461
         refine AO.gp rfl rfl rfl (p_move rfl) ?_
         refine AO.gp rfl rfl rfl (p_move rfl) ?_
         obtain ⟨k464, hd465⟩ := chk_some hd463
         refine AO.gp rfl rfl rfl (p_subE rfl rfl k464) ?_
         obtain ⟨b466, h467, hd468⟩ := bnd_some hd465
         refine AO.gc rfl rfl rfl (o_call (vs := [.int .i64 (rd a1 x305.toNat), .int .i64 0, .int .i64 (a0 - 1)]) rfl Try.call52 (W_impl_between fu G410 (rd a1 x305.toNat) 0 (a0 - 1) b466 h467)) ?_
         refine AO.gp rfl rfl rfl (p_not rfl) ?_
         refine AO.gp rfl rfl rfl (p_move rfl) ?_
         refine AO.cases (d := 32) rfl (fun c470 => ?_) (fun c470 => ?_)
         ·have hd471 := bif_t c470 hd468
          refine AO.gn rfl rfl rfl ?_
          refine AO.gn rfl rfl rfl ?_
          refine AO.gn rfl rfl rfl ?_
          refine AO.gn rfl rfl rfl ?_
          refine AO.gn rfl rfl rfl ?_
          refine AO.gp rfl rfl rfl (p_pickT rfl rfl) ?_
          refine AO.gp rfl rfl rfl (p_pickT rfl rfl) ?_
          refine AO.p rfl (p_pickF rfl rfl) ?_
          refine AO.nil ?_
          have S472 := S409.front 0 rfl
          exact ⟨true, (some_inj hd471), S472, Sub.cons' rfl rfl (Sub.cons' rfl rfl (Sub.cons' rfl rfl (Sub.cons' rfl rfl (Sub.cons' rfl rfl (Sub.nil _)))))⟩
         ·have hd473 := bif_f c470 hd468
          refine AO.gp rfl rfl rfl (p_move rfl) ?_
          obtain ⟨k474, hd475⟩ := chk_some hd473
          refine AO.gp rfl rfl rfl (s_indexAr (q := (rd a1 x305.toNat).toNat) Try.underlying54 Try.sizeOf2 rfl rfl k474 (z1 _)) ?_
          refine AO.gc rfl rfl rfl (s_load Try.isAgg2 rfl (row_cell (S409.get (k := 0) rfl) (ints_get (lt_len h_a1 (inR_lt k474))))) ?_
          refine AO.gp rfl rfl rfl (p_move rfl) ?_
          refine AO.gp rfl rfl rfl (p_neq rfl rfl) ?_
          refine AO.gp rfl rfl rfl (p_pickF rfl rfl) ?_
          refine AO.gp rfl rfl rfl (p_pickT rfl rfl) ?_
          refine AO.p rfl (p_pickF rfl rfl) ?_
          refine AO.nil ?_
          have S476 := S409.front 0 rfl
          exact ⟨(!decide (rd a1 ((rd a1 x305.toNat).toNat) = x305)), (some_inj hd475), S476, Sub.cons' rfl rfl (Sub.cons' rfl rfl (Sub.cons' rfl rfl (Sub.cons' rfl rfl (Sub.cons' rfl rfl (Sub.nil _)))))⟩
        ·have hd477 := bif_f c462 hd461
         refine AO.gn rfl rfl rfl ?_
         refine AO.gn rfl rfl rfl ?_
         refine AO.gn rfl rfl rfl ?_
         refine AO.gn rfl rfl rfl ?_
         refine AO.gn rfl rfl rfl ?_
         refine AO.gn rfl rfl rfl ?_
         refine AO.gu rfl rfl rfl ?_
         refine AO.gu rfl rfl rfl ?_
         refine AO.gu rfl rfl rfl ?_
         refine AO.gu rfl rfl rfl ?_
         refine AO.gu rfl rfl rfl ?_
         refine AO.gn rfl rfl rfl ?_
         refine AO.gp rfl rfl rfl (p_pickF rfl rfl) ?_
         refine AO.p rfl (p_pickF rfl rfl) ?_
         refine AO.nil ?_
         have S478 := S409.front 0 rfl
         exact ⟨false, (some_inj hd477), S478, Sub.cons' rfl rfl (Sub.cons' rfl rfl (Sub.cons' rfl rfl (Sub.cons' rfl rfl (Sub.cons' rfl rfl (Sub.nil _)))))⟩
      ·have hd479 := bif_f c456 hb454
       refine AO.gn rfl rfl rfl ?_
       refine AO.gn rfl rfl rfl ?_
       refine AO.p rfl (p_pickF rfl rfl) ?_
       refine AO.p rfl (p_move rfl) ?_
       refine AO.gp rfl rfl rfl (p_move rfl) ?_
       refine AO.gp rfl rfl rfl (p_move rfl) ?_
       refine AO.gp rfl rfl rfl (p_lss rfl rfl) ?_
       refine AO.gp rfl rfl rfl (p_move rfl) ?_
       refine AO.cases (d := 26) rfl (fun c480 => ?_) (fun c480 => ?_)
       ·have hd481 := bif_t c480 hd479
        refine AO.gp rfl rfl rfl (p_move rfl) ?_
        refine AO.gp rfl rfl rfl (p_move rfl) ?_
        obtain ⟨k482, hd483⟩ := chk_some hd481
        refine AO.gp rfl rfl rfl (p_subE rfl rfl k482) ?_
        obtain ⟨b484, h485, hd486⟩ := bnd_some hd483
        refine AO.gc rfl rfl rfl (o_call (vs := [.int .i64 (rd a1 x305.toNat), .int .i64 0, .int .i64 (a0 - 1)]) rfl Try.call52 (W_impl_between fu G410 (rd a1 x305.toNat) 0 (a0 - 1) b484 h485)) ?_
        refine AO.gp rfl rfl rfl (p_not rfl) ?_
        refine AO.gp rfl rfl rfl (p_move rfl) ?_
        refine AO.cases (d := 32) rfl (fun c488 => ?_) (fun c488 => ?_)
        ·have hd489 := bif_t c488 hd486
         refine AO.gn rfl rfl rfl ?_
         refine AO.gn rfl rfl rfl ?_
         refine AO.gn rfl rfl rfl ?_
         refine AO.gn rfl rfl rfl ?_
         refine AO.gn rfl rfl rfl ?_
         refine AO.gp rfl rfl rfl (p_pickT rfl rfl) ?_
         refine AO.gp rfl rfl rfl (p_pickT rfl rfl) ?_
         refine AO.p rfl (p_pickF rfl rfl) ?_
         refine AO.nil ?_
         have S490 := S409.front 0 rfl
         exact ⟨true, (some_inj hd489), S490, Sub.cons' rfl rfl (Sub.cons' rfl rfl (Sub.cons' rfl rfl (Sub.cons' rfl rfl (Sub.cons' rfl rfl (Sub.nil _)))))⟩
        ·have hd491 := bif_f c488 hd486
         refine AO.gp rfl rfl rfl (p_move rfl) ?_
         obtain ⟨k492, hd493⟩ := chk_some hd491
         refine AO.gp rfl rfl rfl (s_indexAr (q := (rd a1 x305.toNat).toNat) Try.underlying54 Try.sizeOf2 rfl rfl k492 (z1 _)) ?_
         refine AO.gc rfl rfl rfl (s_load Try.isAgg2 rfl (row_cell (S409.get (k := 0) rfl) (ints_get (lt_len h_a1 (inR_lt k492))))) ?_
         refine AO.gp rfl rfl rfl (p_move rfl) ?_
         refine AO.gp rfl rfl rfl (p_neq rfl rfl) ?_
         refine AO.gp rfl rfl rfl (p_pickF rfl rfl) ?_
         refine AO.gp rfl rfl rfl (p_pickT rfl rfl) ?_
         refine AO.p rfl (p_pickF rfl rfl) ?_
         refine AO.nil ?_
         have S494 := S409.front 0 rfl
         exact ⟨(!decide (rd a1 ((rd a1 x305.toNat).toNat) = x305)), (some_inj hd493), S494, Sub.cons' rfl rfl (Sub.cons' rfl rfl (Sub.cons' rfl rfl (Sub.cons' rfl rfl (Sub.cons' rfl rfl (Sub.nil _)))))⟩
       ·have hd495 := bif_f c480 hd479
        refine AO.gn rfl rfl rfl ?_
        refine AO.gn rfl rfl rfl ?_
        refine AO.gn rfl rfl rfl ?_
        refine AO.gn rfl rfl rfl ?_
        refine AO.gn rfl rfl rfl ?_
        refine AO.gn rfl rfl rfl ?_
        refine AO.gu rfl rfl rfl ?_
        refine AO.gu rfl rfl rfl ?_
        refine AO.gu rfl rfl rfl ?_
        refine AO.gu rfl rfl rfl ?_
        refine AO.gu rfl rfl rfl ?_
        refine AO.gn rfl rfl rfl ?_
        refine AO.gp rfl rfl rfl (p_pickF rfl rfl) ?_
        refine AO.p rfl (p_pickF rfl rfl) ?_
        refine AO.nil ?_
        have S496 := S409.front 0 rfl
        exact ⟨false, (some_inj hd495), S496, Sub.cons' rfl rfl (Sub.cons' rfl rfl (Sub.cons' rfl rfl (Sub.cons' rfl rfl (Sub.cons' rfl rfl (Sub.nil _)))))⟩
     ·rintro t' G498 ⟨b452, rfl, S497, hsub499⟩
      refine AX.sub hsub499 ?_
      refine AX.cond rfl (fun c500 => ?_) (fun c500 => ?_)
      ·have hd501 := bif_t c500 hd455
       refine AX.seq ?_
       refine AX.region ?_
       refine AO.p rfl (p_assign rfl) ?_
       refine AO.nil ?_
       refine AX.ret ?_
       obtain rfl := some_inj hd501
       have z502 : _ = r402 := hk408
       subst z502
       obtain rfl := some_inj hd404
       exact ⟨.inr rfl, _, res1 rfl (rv_tmp rfl), rfl, (flatB_ok rfl), S497.hold⟩
      ·have hd503 := bif_f c500 hd455
       refine AX.skip ?_
       refine AX.region ?_
       obtain ⟨k504, hd505⟩ := chk_some hd503
       refine AO.p rfl (p_addE rfl rfl k504) ?_
       refine AO.p rfl (p_move rfl) ?_
       refine AO.nil ?_
       obtain rfl := some_inj hd505
       have S507 := S497.front 0 rfl
       exact ⟨x305 + 1, hk408, (x305 + 1), rfl, S507, Sub.cons' rfl rfl (Sub.cons' rfl rfl (Sub.cons' rfl rfl (Sub.cons' rfl rfl (Sub.nil _))))⟩
    ·have hd508 := bif_f c413 ho407
     refine AX.exit ?_
     obtain rfl := some_inj hd508
     have S509 := S409.keep 0
     exact ⟨hk408, S509, Sub.nil _⟩
  ·rintro t' G511 ⟨rfl, S510, hsub512⟩
   refine ⟨_, hsub512, ?_⟩
   refine AX.seq ?_
   refine AX.region ?_
   refine AO.p rfl (p_assign rfl) ?_
   refine AO.nil ?_
   refine AX.ret ?_
   obtain rfl := some_inj hd404
   exact ⟨.inr rfl, _, res1 rfl (rv_tmp rfl), rfl, (flatB_ok rfl), S510.hold⟩

set_option maxHeartbeats 4000000 in
theorem W_spec_l01Own (fu : Nat) (H : AHeap) (p_a0 : Option Addr) (c_a0 : Nat) (a0 : List Int) (v_a0 : Vw H p_a0 a0.length c_a0 (ints a0)) (r0 : List Int) (hd : D_spec_l01Own fu a0 = some r0) : ∃ v G', ACall Try.prog 114 [.slice p_a0 a0.length c_a0] H v G' ∧ ∃ (p_r0 : Option Addr) (c_r0 : Nat), (v = .slice p_r0 r0.length c_r0) ∧ St [] H G' [oseg p_r0 (ints r0)] ∧ Sb p_r0 r0.length c_r0 1 := by
 refine ACall.bodyX (args := [.slice p_a0 a0.length c_a0]) (N := 6) [(0, .slice p_a0 a0.length c_a0)] (fun v G' => ∃ (p_r0 : Option Addr) (c_r0 : Nat), (v = .slice p_r0 r0.length c_r0) ∧ St [] H G' [oseg p_r0 (ints r0)] ∧ Sb p_r0 r0.length c_r0 1) Try.func114 rfl rfl rfl rfl ?_
 unfold D_spec_l01Own at hd
 have S0 : St [] H H [] := St.nil H
 refine AX.seq ?_
 refine AX.region ?_
 refine AO.p rfl (p_assign rfl) ?_
 refine AO.nil ?_
 refine AX.seq ?_
 refine AX.region ?_
 obtain ⟨G100, i101, hii101, hHG100, S102⟩ := S0.new (AObj.row false (ints []))
 refine AO.c rfl (s_build0 (i := i101) Try.underlying58 Try.sizeOf2 hii101 hHG100) ?_
 refine AO.p rfl (p_move rfl) ?_
 obtain ⟨k104, hd105⟩ := chk_some hd
 obtain ⟨p106, c107, G108, haG108, S109, Bp106⟩ := S102.app (k := 0) rfl (Sb.lit (n := 0) (by decide)) (ints a0) a0.length (ints_len1 rfl)
 have S110 := S109.cellsEq (k := 0) (us' := ints a0) (List.nil_append _) rfl
 have BS110 : Sb p106 (a0.length) c107 1 := (show 0 + a0.length = a0.length from len_nilapp (b := a0) rfl) ▸ Bp106
 refine AO.c rfl (s_app (by_ := 8) (us := ints []) (vs := ints a0) Try.underlying58 Try.underlying58 Try.typeInfo2 Try.sizeOf2 Try.zeroValue2 rfl rfl rfl rfl rfl rfl rfl (S102.buf (k := 0) rfl (Sb.lit (n := 0) (by decide)) (ints_len1 rfl)) (S102.view v_a0) (ints_len1 rfl) ints_one k104 haG108 (show 0 + a0.length = a0.length from len_nilapp (b := a0) rfl)) ?_
 refine AO.p rfl (p_assign rfl) ?_
 refine AO.nil ?_
 refine AX.ret ?_
 obtain rfl := some_inj hd105
 have S111 := S110.front 0 rfl
 exact ⟨.inr rfl, _, res1 rfl (rv_tmp rfl), p106, c107, rfl, S111, BS110⟩

set_option maxHeartbeats 4000000 in
theorem W_impl_always (fu : Nat) (H : AHeap)  (r0 : Bool) (hd : D_impl_always fu = some r0) : ACall Try.prog 69 [] H (.bool r0) H := by
 refine ACall.bodyP (N := 1) [] Try.func69 rfl rfl rfl rfl ?_
 unfold D_impl_always at hd
 have S0 : St [] H H [] := St.nil H
 refine AX.seq ?_
 refine AX.region ?_
 refine AO.p rfl (p_assign rfl) ?_
 refine AO.nil ?_
 refine AX.seq ?_
 refine AX.region ?_
 refine AO.p rfl (p_assign rfl) ?_
 refine AO.nil ?_
 refine AX.ret ?_
 obtain rfl := some_inj hd
 exact ⟨.inr rfl, _, res1 rfl (rv_tmp rfl), rfl, (flatB_ok rfl), S0.hold⟩

set_option maxHeartbeats 4000000 in
theorem W_spec_l01Free (fu : Nat) (H : AHeap) (a0 : Int) (r0 : List Int) (hd : D_spec_l01Free fu a0 = some r0) : ACall Try.prog 108 [.int .i64 a0] H (.agg (ints r0).toArray) H ∧ r0.length = 14 := by
 refine ACall.bodyPF (N := 15) [(0, .int .i64 a0)] Try.func108 rfl rfl rfl rfl ?_
 unfold D_spec_l01Free at hd
 have S0 : St [] H H [] := St.nil H
 refine AX.seq ?_
 refine AX.region ?_
 obtain ⟨G100, i101, hii101, hHG100, S102⟩ := S0.new (AObj.row false (ints (List.replicate 14 0)))
 refine AO.c rfl (s_alloc (i := i101) (cs := ints (List.replicate 14 0)) Try.zeroValue54 rfl rfl hii101 hHG100) ?_
 refine AO.nil ?_
 refine AX.seq ?_
 refine AX.region ?_
 refine AO.p rfl (p_buildZ (z := ints (List.replicate 14 0)) Try.underlying54 Try.sizeOf2 Try.zeroValue54 rfl) ?_
 obtain ⟨G104, i105, hii105, hHG104, S106⟩ := S102.new (AObj.row false (ints (List.replicate 14 0)))
 refine AO.c rfl (s_alloc (i := i105) (cs := ints (List.replicate 14 0)) Try.zeroValue54 rfl rfl hii105 hHG104) ?_
 obtain ⟨G108, hHG108, S109⟩ := S106.set (k := 0) (i := i105) rfl (AObj.row false (ints (List.replicate 14 0)))
 refine AO.s (s_storeAll (vs := ints (List.replicate 14 0)) Try.sizeOf54 rfl rfl ints_one (S106.get (k := 0) rfl) (ints_len len_rep) (ints_len len_rep) hHG108) ?_
 refine AO.nil ?_
 refine AX.seq ?_
 refine AX.seq ?_
 refine AX.region ?_
 refine AO.p rfl (p_assign rfl) ?_
 refine AO.nil ?_
 obtain ⟨r157, hl158, hd159⟩ := bnd_some hd
 refine AX.cutS (fun t' H' => ∃ (xs156 : List Int), xs156 = r157 ∧ St [] H H' [[(i101, AObj.row false (ints (List.replicate 14 0)))], [(i105, AObj.row false (ints xs156))]] ∧ xs156.length = 14 ∧ Am.Sub [(2, .pointer (some ⟨i101, 0, none⟩)), (3, .pointer (some ⟨i105, 0, none⟩))] t') ?_ ?_
 ·refine AX.block ?_
  refine AX.loopF (fun s' t' H' => ∃ (xs140 : List Int) (x141 : Int), (xs140, x141) = s' ∧ St [] H H' [[(i101, AObj.row false (ints (List.replicate 14 0)))], [(i105, AObj.row false (ints xs140))]] ∧ xs140.length = 14 ∧ Am.Sub [(0, .int .i64 a0), (2, .pointer (some ⟨i101, 0, none⟩)), (3, .pointer (some ⟨i105, 0, none⟩)), (4, .int .i64 x141)] t') hl158 ?_ ?_
  ·skip
   have S160 := S109.front 0 rfl
   have S161 := S160.front 1 rfl
   exact ⟨(List.replicate 14 0), 0, rfl, S161, len_rep, Sub.cons' rfl rfl (Sub.cons' rfl rfl (Sub.cons' rfl rfl (Sub.cons' rfl rfl (Sub.nil _))))⟩
  ·rintro n162 _ t' G166 ⟨xs140, x141, rfl, S165, lxs140, hsub167⟩ o168 ho163 hk164
   refine AX.sub hsub167 ?_
   unfold D_spec_l01Free_s0 at ho163
   refine AX.seq ?_
   refine AX.seq ?_
   refine AX.region ?_
   refine AO.p rfl (p_move rfl) ?_
   refine AO.p rfl (p_move rfl) ?_
   refine AO.p rfl (p_lss rfl rfl) ?_
   refine AO.nil ?_
   refine AX.cond rfl (fun c169 => ?_) (fun c169 => ?_)
   ·have hd170 := bif_t c169 ho163
    refine AX.skip ?_
    refine AX.seq ?_
    refine AX.block ?_
    refine AX.region ?_
    refine AO.p rfl (p_move rfl) ?_
    refine AO.p rfl (p_move rfl) ?_
    obtain ⟨k171, hd172⟩ := chk_some hd170
    refine AO.p rfl (s_indexAr (q := x141.toNat) Try.underlying54 Try.sizeOf2 rfl rfl k171 (z1 _)) ?_
    obtain ⟨G173, hHG173, S174⟩ := S165.set (k := 1) (i := i105) rfl (AObj.row false (ints (xs140.set x141.toNat x141)))
    refine AO.s (s_store Try.sizeOf2 rfl rfl rfl (S165.get (k := 1) rfl) (lt_len (ints_len lxs140) (inR_lt k171)) ((congrArg (fun l => List.set _ _ (AObj.row false l)) (ints_set _ _ _)).trans hHG173)) ?_
    refine AO.nil ?_
    refine AX.region ?_
    refine AO.p rfl (p_move rfl) ?_
    obtain ⟨k175, hd176⟩ := chk_some hd172
    refine AO.p rfl (p_addE rfl rfl k175) ?_
    refine AO.p rfl (p_assign rfl) ?_
    refine AO.nil ?_
    obtain rfl := some_inj hd176
    have S178 := S174.front 1 rfl
    have S179 := S178.front 1 rfl
    exact ⟨((xs140.set x141.toNat x141), x141 + 1), hk164, (xs140.set x141.toNat x141), (x141 + 1), rfl, S179, (len_set lxs140), Sub.cons' rfl rfl (Sub.cons' rfl rfl (Sub.cons' rfl rfl (Sub.cons' rfl rfl (Sub.nil _))))⟩
   ·have hd180 := bif_f c169 ho163
    refine AX.exit ?_
    obtain rfl := some_inj hd180
    have S181 := S165.front 1 rfl
    have S182 := S181.front 1 rfl
    exact ⟨xs140, hk164, S182, lxs140, Sub.cons' rfl rfl (Sub.cons' rfl rfl (Sub.nil _))⟩
 ·rintro t' G184 ⟨xs156, rfl, S183, lxs156, hsub185⟩
  refine ⟨_, hsub185, ?_⟩
  refine AX.seq ?_
  refine AX.region ?_
  refine AO.c rfl (s_loadN (vs := ints xs156) Try.isAgg54 Try.sizeOf54 rfl (ints_len lxs156) (row_cells (S183.get (k := 1) rfl))) ?_
  obtain ⟨G186, hHG186, S187⟩ := S183.set (k := 0) (i := i101) rfl (AObj.row false (ints xs156))
  refine AO.s (s_storeAll (vs := ints xs156) Try.sizeOf54 rfl rfl ints_one (S183.get (k := 0) rfl) (ints_len lxs156) (ints_len len_rep) hHG186) ?_
  refine AO.nil ?_
  refine AX.ret ?_
  obtain rfl := some_inj hd159
  exact ⟨.inr rfl, _, res1 rfl (rv_cell (vs := ints xs156) rfl Try.isAgg54 Try.sizeOf54 (ints_len lxs156) (row_cells (S187.get (k := 0) rfl))), rfl, (flat_arr _), S187.hold, lxs156⟩

set_option maxHeartbeats 4000000 in
theorem W_spec_l01Made (fu : Nat) (H : AHeap) (a0 : Int) (p_a1 : Option Addr) (c_a1 : Nat) (T_a1 : Tb) (a1 : List (List Int)) (t_a1 : trows T_a1 = a1) (v_a1 : Vw H p_a1 a1.length c_a1 (tcells T_a1)) (w_a1 : TVw H T_a1) (r0 : List Int) (hd : D_spec_l01Made fu a0 a1 = some r0) : ACall Try.prog 164 [.int .i64 a0, .slice p_a1 a1.length c_a1] H (.agg (ints r0).toArray) H ∧ r0.length = 14 := by
 refine ACall.bodyPF (N := 42) [(0, .int .i64 a0), (1, .slice p_a1 a1.length c_a1)] Try.func164 rfl rfl rfl rfl ?_
 unfold D_spec_l01Made at hd
 have S0 : St [] H H [] := St.nil H
 refine AX.seq ?_
 refine AX.region ?_
 obtain ⟨G100, i101, hii101, hHG100, S102⟩ := S0.new (AObj.row false (ints (List.replicate 14 0)))
 refine AO.c rfl (s_alloc (i := i101) (cs := ints (List.replicate 14 0)) Try.zeroValue54 rfl rfl hii101 hHG100) ?_
 refine AO.nil ?_
 refine AX.seq ?_
 refine AX.region ?_
 refine AO.p rfl (p_move rfl) ?_
 obtain ⟨xs104, h105, hd106⟩ := bnd_some hd
 obtain ⟨hc108, l109⟩ := W_spec_l01Free fu G100 a0 xs104 h105
 refine AO.c rfl (o_call (vs := [.int .i64 a0]) rfl Try.call108 hc108) ?_
 obtain ⟨G110, i111, hii111, hHG110, S112⟩ := S102.new (AObj.row false (ints (List.replicate 14 0)))
 refine AO.c rfl (s_alloc (i := i111) (cs := ints (List.replicate 14 0)) Try.zeroValue54 rfl rfl hii111 hHG110) ?_
 obtain ⟨G114, hHG114, S115⟩ := S112.set (k := 0) (i := i111) rfl (AObj.row false (ints xs104))
 refine AO.s (s_storeAll (vs := ints xs104) Try.sizeOf54 rfl rfl ints_one (S112.get (k := 0) rfl) (ints_len l109) (ints_len len_rep) hHG114) ?_
 refine AO.nil ?_
 refine AX.seq ?_
 refine AX.seq ?_
 refine AX.region ?_
 refine AO.p rfl (p_assign rfl) ?_
 refine AO.nil ?_
 obtain ⟨r273, hl274, hd275⟩ := bnd_some hd106
 refine AX.cutS (fun t' H' => ∃ (xs272 : List Int), xs272 = r273 ∧ St [] H H' [[(i101, AObj.row false (ints (List.replicate 14 0)))], [(i111, AObj.row false (ints xs272))]] ∧ xs272.length = 14 ∧ Am.Sub [(4, .pointer (some ⟨i101, 0, none⟩)), (5, .pointer (some ⟨i111, 0, none⟩))] t') ?_ ?_
 ·refine AX.block ?_
  refine AX.loopF (fun s' t' H' => ∃ (xs220 : List Int) (x221 : Int), (xs220, x221) = s' ∧ St [] H H' [[(i101, AObj.row false (ints (List.replicate 14 0)))], [(i111, AObj.row false (ints xs220))]] ∧ xs220.length = 14 ∧ Am.Sub [(1, .slice p_a1 a1.length c_a1), (4, .pointer (some ⟨i101, 0, none⟩)), (5, .pointer (some ⟨i111, 0, none⟩)), (6, .int .i64 x221)] t') hl274 ?_ ?_
  ·skip
   have S276 := S115.front 0 rfl
   have S277 := S276.front 1 rfl
   exact ⟨xs104, 0, rfl, S277, l109, Sub.cons' rfl rfl (Sub.cons' rfl rfl (Sub.cons' rfl rfl (Sub.cons' rfl rfl (Sub.nil _))))⟩
  ·rintro n278 _ t' G282 ⟨xs220, x221, rfl, S281, lxs220, hsub283⟩ o284 ho279 hk280
   refine AX.sub hsub283 ?_
   unfold D_spec_l01Made_s0 at ho279
   refine AX.seq ?_
   refine AX.seq ?_
   refine AX.region ?_
   refine AO.p rfl (p_move rfl) ?_
   refine AO.p rfl (p_move rfl) ?_
   refine AO.p rfl (p_len_slice rfl Try.underlying43) ?_
   refine AO.p rfl (p_lss rfl rfl) ?_
   refine AO.nil ?_
   refine AX.cond rfl (fun c285 => ?_) (fun c285 => ?_)
   ·have hd286 := bif_t c285 ho279
    refine AX.skip ?_
    refine AX.seq ?_
    refine AX.block ?_
    refine AX.seq ?_
    refine DR.startS [false, false, false, false, false, false, false, false, false, false, false, false, false, true] mix (by kernel_rfl) (fun hst => ?_)
    refine DR.p rfl rfl (p_move rfl) ?_
    refine DR.p rfl rfl (p_move rfl) ?_
    obtain ⟨k287, hd288⟩ := chk_some hd286
    obtain ⟨p289, c290, e291, f292⟩ := tget t_a1 (lt_len rfl (inR_lt k287))
    refine DR.p rfl rfl (s_indexV (q := off p_a1 + x221.toNat) Try.underlying43 Try.sizeOf58 rfl ((S281.view v_a1).p f292) rfl k287 (o1 _ _)) ?_
    refine DR.r rfl rfl (r_load rfl Try.isAgg58) (one_read ((S281.view v_a1).get _ _ f292) (TVw.at (S281.tview w_a1) e291).inn.bel) ?_
    obtain ⟨k293, hd294⟩ := chk_some hd288
    refine DR.p rfl rfl (s_indexV (q := off p289 + 0) Try.underlying58 Try.sizeOf2 rfl ((TVw.at (S281.tview w_a1) e291).p (ints_get (lt_len rfl (inR_lt k293)))) rfl k293 (o1 _ _)) ?_
    refine DR.r rfl rfl (r_load rfl Try.isAgg2) (one_read ((TVw.at (S281.tview w_a1) e291).get _ _ (ints_get (lt_len rfl (inR_lt k293)))) (.of_flat0 rfl)) ?_
    refine DR.p rfl rfl (p_move rfl) ?_
    refine DR.p rfl rfl (p_move rfl) ?_
    obtain ⟨k295, hd296⟩ := chk_some hd294
    obtain ⟨p297, c298, e299, f300⟩ := tget t_a1 (lt_len rfl (inR_lt k295))
    refine DR.p rfl rfl (s_indexV (q := off p_a1 + x221.toNat) Try.underlying43 Try.sizeOf58 rfl ((S281.view v_a1).p f300) rfl k295 (o1 _ _)) ?_
    refine DR.r rfl rfl (r_load rfl Try.isAgg58) (one_read ((S281.view v_a1).get _ _ f300) (TVw.at (S281.tview w_a1) e299).inn.bel) ?_
    obtain ⟨k301, hd302⟩ := chk_some hd296
    refine DR.p rfl rfl (s_indexV (q := off p297 + 1) Try.underlying58 Try.sizeOf2 rfl ((TVw.at (S281.tview w_a1) e299).p (ints_get (lt_len rfl (inR_lt k301)))) rfl k301 (o1 _ _)) ?_
    refine DR.r rfl rfl (r_load rfl Try.isAgg2) (one_read ((TVw.at (S281.tview w_a1) e299).get _ _ (ints_get (lt_len rfl (inR_lt k301)))) (.of_flat0 rfl)) ?_
    obtain ⟨k303, hd304⟩ := chk_some hd302
    refine DR.p rfl rfl (s_indexAr (q := (rd (rw_ a1 x221.toNat) 0).toNat) Try.underlying54 Try.sizeOf2 rfl rfl k303 (z1 _)) ?_
    obtain ⟨G305, hHG305, S306⟩ := S281.set (k := 1) (i := i111) rfl (AObj.row false (ints (xs220.set ((rd (rw_ a1 x221.toNat) 0).toNat) (rd (rw_ a1 x221.toNat) 1))))
    refine DR.s rfl (s_store Try.sizeOf2 rfl rfl rfl (S281.get (k := 1) rfl) (lt_len (ints_len lxs220) (inR_lt k303)) ((congrArg (fun l => List.set _ _ (AObj.row false l)) (ints_set _ _ _)).trans hHG305)) (set_le hHG305) ?_
    refine DR.nil 14 [] hst (by kernel_rfl) trivial ?_
    refine DR.startS [false, false, false, false, false, false, false, false, false, false, false, false, false, true] mix (by kernel_rfl) (fun hst => ?_)
    refine DR.p rfl rfl (p_move rfl) ?_
    refine DR.p rfl rfl (p_move rfl) ?_
    obtain ⟨k307, hd308⟩ := chk_some hd304
    obtain ⟨p309, c310, e311, f312⟩ := tget t_a1 (lt_len rfl (inR_lt k307))
    refine DR.p rfl rfl (s_indexV (q := off p_a1 + x221.toNat) Try.underlying43 Try.sizeOf58 rfl ((S306.view v_a1).p f312) rfl k307 (o1 _ _)) ?_
    refine DR.r rfl rfl (r_load rfl Try.isAgg58) (one_read ((S306.view v_a1).get _ _ f312) (TVw.at (S306.tview w_a1) e311).inn.bel) ?_
    obtain ⟨k313, hd314⟩ := chk_some hd308
    refine DR.p rfl rfl (s_indexV (q := off p309 + 1) Try.underlying58 Try.sizeOf2 rfl ((TVw.at (S306.tview w_a1) e311).p (ints_get (lt_len rfl (inR_lt k313)))) rfl k313 (o1 _ _)) ?_
    refine DR.r rfl rfl (r_load rfl Try.isAgg2) (one_read ((TVw.at (S306.tview w_a1) e311).get _ _ (ints_get (lt_len rfl (inR_lt k313)))) (.of_flat0 rfl)) ?_
    refine DR.p rfl rfl (p_move rfl) ?_
    refine DR.p rfl rfl (p_move rfl) ?_
    obtain ⟨k315, hd316⟩ := chk_some hd314
    obtain ⟨p317, c318, e319, f320⟩ := tget t_a1 (lt_len rfl (inR_lt k315))
    refine DR.p rfl rfl (s_indexV (q := off p_a1 + x221.toNat) Try.underlying43 Try.sizeOf58 rfl ((S306.view v_a1).p f320) rfl k315 (o1 _ _)) ?_
    refine DR.r rfl rfl (r_load rfl Try.isAgg58) (one_read ((S306.view v_a1).get _ _ f320) (TVw.at (S306.tview w_a1) e319).inn.bel) ?_
    obtain ⟨k321, hd322⟩ := chk_some hd316
    refine DR.p rfl rfl (s_indexV (q := off p317 + 0) Try.underlying58 Try.sizeOf2 rfl ((TVw.at (S306.tview w_a1) e319).p (ints_get (lt_len rfl (inR_lt k321)))) rfl k321 (o1 _ _)) ?_
    refine DR.r rfl rfl (r_load rfl Try.isAgg2) (one_read ((TVw.at (S306.tview w_a1) e319).get _ _ (ints_get (lt_len rfl (inR_lt k321)))) (.of_flat0 rfl)) ?_
    obtain ⟨k323, hd324⟩ := chk_some hd322
    refine DR.p rfl rfl (s_indexAr (q := (rd (rw_ a1 x221.toNat) 1).toNat) Try.underlying54 Try.sizeOf2 rfl rfl k323 (z1 _)) ?_
    obtain ⟨G325, hHG325, S326⟩ := S306.set (k := 1) (i := i111) rfl (AObj.row false (ints ((xs220.set ((rd (rw_ a1 x221.toNat) 0).toNat) (rd (rw_ a1 x221.toNat) 1)).set ((rd (rw_ a1 x221.toNat) 1).toNat) (rd (rw_ a1 x221.toNat) 0))))
    refine DR.s rfl (s_store Try.sizeOf2 rfl rfl rfl (S306.get (k := 1) rfl) (lt_len (ints_len (len_set lxs220)) (inR_lt k323)) ((congrArg (fun l => List.set _ _ (AObj.row false l)) (ints_set _ _ _)).trans hHG325)) (set_le hHG325) ?_
    refine DR.nil 14 [] hst (by kernel_rfl) trivial ?_
    refine AX.region ?_
    refine AO.p rfl (p_move rfl) ?_
    obtain ⟨k327, hd328⟩ := chk_some hd324
    refine AO.p rfl (p_addE rfl rfl k327) ?_
    refine AO.p rfl (p_assign rfl) ?_
    refine AO.nil ?_
    obtain rfl := some_inj hd328
    have S330 := S326.front 1 rfl
    have S331 := S330.front 1 rfl
    exact ⟨(((xs220.set ((rd (rw_ a1 x221.toNat) 0).toNat) (rd (rw_ a1 x221.toNat) 1)).set ((rd (rw_ a1 x221.toNat) 1).toNat) (rd (rw_ a1 x221.toNat) 0)), x221 + 1), hk280, ((xs220.set ((rd (rw_ a1 x221.toNat) 0).toNat) (rd (rw_ a1 x221.toNat) 1)).set ((rd (rw_ a1 x221.toNat) 1).toNat) (rd (rw_ a1 x221.toNat) 0)), (x221 + 1), rfl, S331, (len_set (len_set lxs220)), Sub.cons' rfl rfl (Sub.cons' rfl rfl (Sub.cons' rfl rfl (Sub.cons' rfl rfl (Sub.nil _))))⟩
   ·have hd332 := bif_f c285 ho279
    refine AX.exit ?_
    obtain rfl := some_inj hd332
    have S333 := S281.front 1 rfl
    have S334 := S333.front 1 rfl
    exact ⟨xs220, hk280, S334, lxs220, Sub.cons' rfl rfl (Sub.cons' rfl rfl (Sub.nil _))⟩
 ·rintro t' G336 ⟨xs272, rfl, S335, lxs272, hsub337⟩
  refine ⟨_, hsub337, ?_⟩
  refine AX.seq ?_
  refine AX.region ?_
  refine AO.c rfl (s_loadN (vs := ints xs272) Try.isAgg54 Try.sizeOf54 rfl (ints_len lxs272) (row_cells (S335.get (k := 1) rfl))) ?_
  obtain ⟨G338, hHG338, S339⟩ := S335.set (k := 0) (i := i101) rfl (AObj.row false (ints xs272))
  refine AO.s (s_storeAll (vs := ints xs272) Try.sizeOf54 rfl rfl ints_one (S335.get (k := 0) rfl) (ints_len lxs272) (ints_len len_rep) hHG338) ?_
  refine AO.nil ?_
  refine AX.ret ?_
  obtain rfl := some_inj hd275
  exact ⟨.inr rfl, _, res1 rfl (rv_cell (vs := ints xs272) rfl Try.isAgg54 Try.sizeOf54 (ints_len lxs272) (row_cells (S339.get (k := 0) rfl))), rfl, (flat_arr _), S339.hold, lxs272⟩

set_option maxHeartbeats 4000000 in
theorem W_spec_l01Pairs (fu : Nat) (H : AHeap) (a0 : Int) (a1 : List Int) (h_a1 : a1.length = 14) (r0 : List (List Int)) (hd : D_spec_l01Pairs fu a0 a1 = some r0) : ∃ v G', ACall Try.prog 64 [.int .i64 a0, .agg (ints a1).toArray] H v G' ∧ ∃ (p_r0 : Option Addr) (c_r0 : Nat) (T_r0 : Tb), (v = .slice p_r0 r0.length c_r0) ∧ St [] H G' [oseg p_r0 (tcells T_r0), tseg T_r0] ∧ Sb p_r0 r0.length c_r0 1 ∧ trows T_r0 = r0 ∧ TSb T_r0 := by
 refine ACall.bodyX (args := [.int .i64 a0, .agg (ints a1).toArray]) (N := 27) [(0, .int .i64 a0), (1, .agg (ints a1).toArray)] (fun v G' => ∃ (p_r0 : Option Addr) (c_r0 : Nat) (T_r0 : Tb), (v = .slice p_r0 r0.length c_r0) ∧ St [] H G' [oseg p_r0 (tcells T_r0), tseg T_r0] ∧ Sb p_r0 r0.length c_r0 1 ∧ trows T_r0 = r0 ∧ TSb T_r0) Try.func64 rfl rfl rfl rfl ?_
 unfold D_spec_l01Pairs at hd
 have S0 : St [] H H [] := St.nil H
 refine AX.seq ?_
 refine AX.region ?_
 obtain ⟨G100, i101, hii101, hHG100, S102⟩ := S0.new (AObj.row false (ints a1))
 refine AO.c rfl (s_box (i := i101) (cs := ints a1) rfl hii101 rfl hHG100) ?_
 refine AO.p rfl (p_assign rfl) ?_
 refine AO.nil ?_
 refine AX.seq ?_
 refine AX.region ?_
 obtain ⟨G104, i105, hii105, hHG104, S106⟩ := S102.new (AObj.row false (tcells []))
 have S106t := S106.nilseg 1
 refine AO.c rfl (s_build0 (i := i105) Try.underlying43 Try.sizeOf58 hii105 hHG104) ?_
 refine AO.p rfl (p_assign rfl) ?_
 refine AO.nil ?_
 refine AX.seq ?_
 refine AX.seq ?_
 refine AX.region ?_
 refine AO.p rfl (p_assign rfl) ?_
 refine AO.nil ?_
 obtain ⟨r233, hl234, hd235⟩ := bnd_some hd
 refine AX.cutS (fun t' H' => ∃ (rs231 : List (List Int)) (p229 : Option Addr) (c230 : Nat) (T232 : Tb), rs231 = r233 ∧ St [] H H' [oseg p229 (tcells T232), tseg T232] ∧ trows T232 = rs231 ∧ TSb T232 ∧ Sb p229 (rs231.length) c230 1 ∧ Am.Sub [(5, .slice p229 rs231.length c230)] t') ?_ ?_
 ·refine AX.block ?_
  refine AX.loopF (fun s' t' H' => ∃ (rs189 : List (List Int)) (x191 : Int) (p187 : Option Addr) (c188 : Nat) (T190 : Tb), (rs189, x191) = s' ∧ St [] H H' [[(i101, AObj.row false (ints a1))], oseg p187 (tcells T190), tseg T190] ∧ trows T190 = rs189 ∧ TSb T190 ∧ Sb p187 (rs189.length) c188 1 ∧ Am.Sub [(0, .int .i64 a0), (3, .pointer (some ⟨i101, 0, none⟩)), (5, .slice p187 rs189.length c188), (6, .int .i64 x191)] t') hl234 ?_ ?_
  ·skip
   have S236 := S106t.front 1 rfl
   have S237 := S236.front 1 rfl
   have S238 := S237.front 2 rfl
   exact ⟨[], 0, (some (Addr.mk i105 0 none)), 0, [], rfl, S238, rfl, TSb.nil, (Sb.lit (n := 0) (by decide)), Sub.cons' rfl rfl (Sub.cons' rfl rfl (Sub.cons' rfl rfl (Sub.cons' rfl rfl (Sub.nil _))))⟩
  ·rintro n239 _ t' G243 ⟨rs189, x191, p187, c188, T190, rfl, S242, tT190, sT190, Bo186, hsub244⟩ o245 ho240 hk241
   refine AX.sub hsub244 ?_
   unfold D_spec_l01Pairs_s0 at ho240
   refine AX.seq ?_
   refine AX.seq ?_
   refine AX.region ?_
   refine AO.p rfl (p_move rfl) ?_
   refine AO.p rfl (p_move rfl) ?_
   refine AO.p rfl (p_lss rfl rfl) ?_
   refine AO.nil ?_
   refine AX.cond rfl (fun c246 => ?_) (fun c246 => ?_)
   ·have hd247 := bif_t c246 ho240
    refine AX.skip ?_
    refine AX.seq ?_
    refine AX.block ?_
    refine AX.seq ?_
    refine AX.region ?_
    refine AO.p rfl (p_move rfl) ?_
    refine AO.p rfl (p_move rfl) ?_
    obtain ⟨k248, hd249⟩ := chk_some hd247
    refine AO.p rfl (s_indexAr (q := x191.toNat) Try.underlying54 Try.sizeOf2 rfl rfl k248 (z1 _)) ?_
    refine AO.c rfl (s_load Try.isAgg2 rfl (row_cell (S242.get (k := 0) rfl) (ints_get (lt_len h_a1 (inR_lt k248))))) ?_
    refine AO.p rfl (p_lss rfl rfl) ?_
    refine AO.nil ?_
    refine AX.cond rfl (fun c250 => ?_) (fun c250 => ?_)
    ·have hd251 := bif_t c250 hd249
     refine AX.region ?_
     refine AO.p rfl (p_move rfl) ?_
     refine AO.p rfl (p_move rfl) ?_
     refine AO.p rfl (p_move rfl) ?_
     obtain ⟨k252, hd253⟩ := chk_some hd251
     refine AO.p rfl (s_indexAr (q := x191.toNat) Try.underlying54 Try.sizeOf2 rfl rfl k252 (z1 _)) ?_
     refine AO.c rfl (s_load Try.isAgg2 rfl (row_cell (S242.get (k := 0) rfl) (ints_get (lt_len h_a1 (inR_lt k252))))) ?_
     obtain ⟨G254, i255, hii255, hHG254, S256⟩ := S242.new (AObj.row false (ints [x191, rd a1 x191.toNat]))
     refine AO.c rfl (s_buildInts (i := i255) (vs := [(0, .int .i64 x191), (1, .int .i64 (rd a1 x191.toNat))]) (xs := [x191, rd a1 x191.toNat]) Try.underlying58 Try.sizeOf2 Try.zeroValue2 rfl rfl (by decide) rfl rfl hii255 hHG254) ?_
     obtain ⟨G258, i259, hii259, hHG258, S260⟩ := S256.new (AObj.row false (tcells ([((some (Addr.mk i255 0 none)), 2, [x191, rd a1 x191.toNat])])))
     have S262 := (S260.front 1 rfl).tone (some (Addr.mk i255 0 none)) 2 [x191, rd a1 x191.toNat] rfl
     refine AO.c rfl (s_buildT1 (i := i259) (X := [((some (Addr.mk i255 0 none)), 2, [x191, rd a1 x191.toNat])]) (n := 2) rfl Try.underlying43 Try.sizeOf58 Try.zeroValue58 rfl rfl hii259 hHG258) ?_
     obtain ⟨k263, hd264⟩ := chk_some hd253
     obtain ⟨p265, c266, G267, haG267, S268, Bp265⟩ := S262.app (k := 3) rfl Bo186 (tcells ([((some (Addr.mk i255 0 none)), 2, [x191, rd a1 x191.toNat])])) 1 (tc_len1 rfl rfl)
     have S269 := S268.cellsEq (k := 3) (us' := tcells (T190 ++ [((some (Addr.mk i255 0 none)), 2, [x191, rd a1 x191.toNat])])) (tcells_app _ _).symm rfl
     have BS269 : Sb p265 ((rs189 ++ [[x191, rd a1 x191.toNat]]).length) c266 1 := (show rs189.length + 1 = (rs189 ++ [[x191, rd a1 x191.toNat]]).length from len_app (a := rs189) (b := [[x191, rd a1 x191.toNat]]) rfl rfl) ▸ Bp265
     have S270 := S269.front 0 rfl
     have S271 := (S270.front 4 rfl).tmerge
     have S272 := S271.drop 1 rfl
     refine AO.c rfl (s_app (by_ := 24) (us := tcells T190) (vs := tcells ([((some (Addr.mk i255 0 none)), 2, [x191, rd a1 x191.toNat])])) Try.underlying43 Try.underlying43 Try.typeInfo58 Try.sizeOf58 Try.zeroValue58 rfl rfl rfl rfl rfl rfl rfl (S262.buf (k := 3) rfl Bo186 (tc_len1 tT190 rfl)) (S262.oview (k := 1) rfl (Sb.lit (n := 1) (by decide)) (tc_len1 rfl rfl)) (tc_len1 rfl rfl) tcells_one k263 haG267 (show rs189.length + 1 = (rs189 ++ [[x191, rd a1 x191.toNat]]).length from len_app (a := rs189) (b := [[x191, rd a1 x191.toNat]]) rfl rfl)) ?_
     refine AO.p rfl (p_assign rfl) ?_
     refine AO.nil ?_
     refine AX.region ?_
     refine AO.p rfl (p_move rfl) ?_
     obtain ⟨k273, hd274⟩ := chk_some hd264
     refine AO.p rfl (p_addE rfl rfl k273) ?_
     refine AO.p rfl (p_assign rfl) ?_
     refine AO.nil ?_
     obtain rfl := some_inj hd274
     have S276 := S272.front 0 rfl
     have S277 := S276.front 2 rfl
     have S278 := S277.front 2 rfl
     exact ⟨((rs189 ++ [[x191, rd a1 x191.toNat]]), x191 + 1), hk241, (rs189 ++ [[x191, rd a1 x191.toNat]]), (x191 + 1), p265, c266, (T190 ++ [((some (Addr.mk i255 0 none)), 2, [x191, rd a1 x191.toNat])]), rfl, S278, (trows_apps tT190 rfl), (TSb.app sT190 (TSb.one (sb_len rfl (Sb.lit (n := 2) (by decide))))), BS269, Sub.cons' rfl rfl (Sub.cons' rfl rfl (Sub.cons' rfl rfl (Sub.cons' rfl rfl (Sub.nil _))))⟩
    ·have hd279 := bif_f c250 hd249
     refine AX.skip ?_
     refine AX.region ?_
     refine AO.p rfl (p_move rfl) ?_
     obtain ⟨k280, hd281⟩ := chk_some hd279
     refine AO.p rfl (p_addE rfl rfl k280) ?_
     refine AO.p rfl (p_assign rfl) ?_
     refine AO.nil ?_
     obtain rfl := some_inj hd281
     have S283 := S242.front 2 rfl
     have S284 := S283.front 2 rfl
     have S285 := S284.front 2 rfl
     exact ⟨(rs189, x191 + 1), hk241, rs189, (x191 + 1), p187, c188, T190, rfl, S285, tT190, sT190, Bo186, Sub.cons' rfl rfl (Sub.cons' rfl rfl (Sub.cons' rfl rfl (Sub.cons' rfl rfl (Sub.nil _))))⟩
   ·have hd286 := bif_f c246 ho240
    refine AX.exit ?_
    obtain rfl := some_inj hd286
    have S287 := S242.front 2 rfl
    have S288 := S287.front 2 rfl
    have S289 := S288.keep 2
    exact ⟨rs189, p187, c188, T190, hk241, S289, tT190, sT190, Bo186, Sub.cons' rfl rfl (Sub.nil _)⟩
 ·rintro t' G291 ⟨rs231, p229, c230, T232, rfl, S290, tT232, sT232, Bo228, hsub292⟩
  refine ⟨_, hsub292, ?_⟩
  refine AX.seq ?_
  refine AX.region ?_
  refine AO.p rfl (p_move rfl) ?_
  refine AO.p rfl (p_assign rfl) ?_
  refine AO.nil ?_
  refine AX.ret ?_
  obtain rfl := some_inj hd235
  have S293 := S290.front 1 rfl
  have S294 := S293.front 1 rfl
  exact ⟨.inr rfl, _, res1 rfl (rv_tmp rfl), p229, c230, T232, rfl, S294, Bo228, tT232, sT232⟩

end Go.Proofs.Ytdafmafigcljkaa
