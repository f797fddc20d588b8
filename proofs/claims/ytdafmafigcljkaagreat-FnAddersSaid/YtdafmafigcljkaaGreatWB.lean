
/-
 The program computes that, printed by a program. No condition.
-/
import Derived.Test.YtdafmafigcljkaaGreatDB
import Derived.Test.YtdafmafigcljkaaGreatWMb
import Derived.Test.YtdafmafigcljkaaGreatWSo
import Derived.Test.YtdafmafigcljkaaGreatProg
import Derived.KernelRfl
namespace Go.Proofs.YtdafmafigcljkaaGreat
open Go Go.RowKit Am Go.Proofs.Tryz
set_option linter.unusedVariables false
set_option linter.unusedSimpArgs false
set_option maxRecDepth 20000
set_option maxHeartbeats 4000000 in
theorem W_slices_Values_Sint64_int64 (fu : Nat) (H : AHeap) (p_a0 : Option Addr) (c_a0 : Nat) (a0 : List Int) (v_a0 : Vw H p_a0 a0.length c_a0 (ints a0)) (hd : D_slices_Values_Sint64_int64 fu a0 = some ()) : ∃ v G', ACall Tryz.prog 75 [.slice p_a0 a0.length c_a0] H v G' ∧ ∃ (i_rf : Nat), (v = .func (.func 92) #[] #[.pointer (some ⟨i_rf, 0, none⟩)]) ∧ St [] H G' [[(i_rf, AObj.row false ([.slice p_a0 a0.length c_a0]))]] := by
 refine ACall.bodyX (args := [.slice p_a0 a0.length c_a0]) (N := 4) [(0, .slice p_a0 a0.length c_a0)] (fun v G' => ∃ (i_rf : Nat), (v = .func (.func 92) #[] #[.pointer (some ⟨i_rf, 0, none⟩)]) ∧ St [] H G' [[(i_rf, AObj.row false ([.slice p_a0 a0.length c_a0]))]]) Tryz.func75 rfl rfl rfl rfl ?_
 unfold D_slices_Values_Sint64_int64 at hd
 have S0 : St [] H H [] := St.nil H
 refine AX.sr ?_
 obtain ⟨a6, a1, a2, a3, a4⟩ := S0.new (AObj.row false ([.slice p_a0 a0.length c_a0]))
 refine AO.c rfl (s_box (i := a1) (cs := [.slice p_a0 a0.length c_a0]) rfl a2 rfl a3) (AO.a rfl rfl (AO.nil (AX.sr (AO.p rfl (p_makeFunc (fs := []) (cs := [.pointer (some ⟨a1, 0, none⟩)]) rfl rfl) (AO.a rfl rfl (AO.nil (AX.ret ?_)))))))
 have a5 := a4.front 0 rfl
 exact ⟨.inr rfl, _, res1 rfl (rv_tmp rfl), a1, rfl, a5⟩
set_option maxHeartbeats 4000000 in
theorem W_slices_Index_Sint64_int64 (fu : Nat) (H : AHeap) (p_a0 : Option Addr) (c_a0 : Nat) (a0 : List Int) (v_a0 : Vw H p_a0 a0.length c_a0 (ints a0)) (a1 : Int) (r0 : Int) (hd : D_slices_Index_Sint64_int64 fu a0 a1 = some r0) : ACall Tryz.prog 93 [.slice p_a0 a0.length c_a0, .int .i64 a1] H (.int .i64 r0) H := by
 refine ACall.bodyP (N := 19) [(0, .slice p_a0 a0.length c_a0), (1, .int .i64 a1)] Tryz.func93 rfl rfl rfl rfl ?_
 unfold D_slices_Index_Sint64_int64 at hd
 have S0 : St [] H H [] := St.nil H
 refine AX.sr (AO.a rfl rfl (AO.nil (AX.seq (AX.sr (AO.m rfl rfl (AO.p rfl (p_len_slice rfl underlying27) (AO.m rfl rfl (AO.nil ?_))))))))
 obtain ⟨a9, b2, b0⟩ := bnd_some hd
 refine AX.cutS (fun t' H' => .inl () = a9 ∧ St [] H H' [] ∧ Am.Sub [] t') ?_ ?_
 ·refine AX.block (AX.loopF (fun s' t' H' => ∃ (a2 : Int), a2 = s' ∧ St [] H H' [] ∧ Am.Sub [(0, .slice p_a0 a0.length c_a0), (1, .int .i64 a1), (7, .int .i64 ((a0.length : Nat) : Int)), (8, .int .i64 a2)] t') b2 ?_ ?_)
  ·skip
   exact ⟨0, rfl, S0, Sub.k4 rfl rfl rfl rfl (Sub.nil _)⟩
  ·rintro c3 _ t' c4 ⟨a2, rfl, a3, b3⟩ c5 a4 a5
   refine AX.sub b3 ?_
   unfold D_slices_Index_Sint64_int64_s0 at a4
   refine AX.sr (AO.p rfl (p_lss rfl rfl) (AO.nil (AX.seq (AX.cond rfl (fun a6 => ?_) (fun a6 => ?_)))))
   ·have b4 := bif_t a6 a4
    refine AX.skip (AX.seq (AX.block (AX.sr (AO.m rfl rfl (AO.a rfl rfl (AO.nil (AX.sr (AO.m rfl rfl (AO.m rfl rfl (AO.m rfl rfl ?_))))))))))
    obtain ⟨a7, b1⟩ := chk_some b4
    refine AO.p rfl (s_indexV (q := off p_a0 + a2.toNat) underlying27 sizeOf2 rfl ((a3.view v_a0).p (ints_get (lt_len rfl (inR_lt a7)))) rfl a7 (o1 _ _)) (AO.c rfl (s_load isAgg2 rfl ((a3.view v_a0).get _ _ (ints_get (lt_len rfl (inR_lt a7))))) (AO.p rfl (p_eql rfl rfl) (AO.nil (AX.cond rfl (fun a8 => ?_) (fun a8 => ?_)))))
    ·have b5 := bif_t a8 b1
     refine AX.sr (AO.m rfl rfl (AO.a rfl rfl (AO.nil (AX.ret ?_))))
     obtain rfl := some_inj b5
     have b6 : _ = a9 := a5
     subst b6
     obtain rfl := some_inj b0
     exact ⟨.inr rfl, _, res1 rfl (rv_tmp rfl), rfl, (flatB_ok rfl), a3.hold⟩
    ·have b7 := bif_f a8 b1
     refine AX.skip (AX.region ?_)
     obtain ⟨b8, b9⟩ := chk_some b7
     refine AO.p rfl (p_addE rfl rfl b8) (AO.m rfl rfl (AO.nil ?_))
     obtain rfl := some_inj b9
     exact ⟨a2 + 1, a5, (a2 + 1), rfl, a3, Sub.k4 rfl rfl rfl rfl (Sub.nil _)⟩
   ·have c0 := bif_f a6 a4
    refine AX.exit ?_
    obtain rfl := some_inj c0
    exact ⟨a5, a3, Sub.nil _⟩
 ·rintro t' c6 ⟨rfl, c1, c2⟩
  refine ⟨_, c2, ?_⟩
  refine AX.sr (AO.a rfl rfl (AO.nil (AX.ret ?_)))
  obtain rfl := some_inj b0
  exact ⟨.inr rfl, _, res1 rfl (rv_tmp rfl), rfl, (flatB_ok rfl), c1.hold⟩
set_option maxHeartbeats 4000000 in
theorem W_slices_Contains_Sint64_int64 (fu : Nat) (H : AHeap) (p_a0 : Option Addr) (c_a0 : Nat) (a0 : List Int) (v_a0 : Vw H p_a0 a0.length c_a0 (ints a0)) (a1 : Int) (r0 : Bool) (hd : D_slices_Contains_Sint64_int64 fu a0 a1 = some r0) : ACall Tryz.prog 76 [.slice p_a0 a0.length c_a0, .int .i64 a1] H (.bool r0) H := by
 refine ACall.bodyP (N := 9) [(0, .slice p_a0 a0.length c_a0), (1, .int .i64 a1)] Tryz.func76 rfl rfl rfl rfl ?_
 unfold D_slices_Contains_Sint64_int64 at hd
 have S0 : St [] H H [] := St.nil H
 refine AX.sr (AO.a rfl rfl (AO.nil (AX.sr (AO.m rfl rfl (AO.m rfl rfl ?_)))))
 obtain ⟨a2, a3, a4⟩ := bnd_some hd
 refine AO.c rfl (o_call (vs := [.slice p_a0 a0.length c_a0, .int .i64 a1]) rfl Tryz.call93 (W_slices_Index_Sint64_int64 fu H p_a0 c_a0 a0 (S0.view v_a0) a1 a2 a3)) (AO.p rfl (p_geq rfl rfl) (AO.a rfl rfl (AO.nil (AX.ret ?_))))
 obtain rfl := some_inj a4
 exact ⟨.inr rfl, _, res1 rfl (rv_tmp rfl), rfl, (flatB_ok rfl), S0.hold⟩
set_option maxHeartbeats 4000000 in
theorem W_slices_Clone_Sint64_int64 (fu : Nat) (H : AHeap) (p_a0 : Option Addr) (c_a0 : Nat) (a0 : List Int) (v_a0 : Vw H p_a0 a0.length c_a0 (ints a0)) (e_a0 : c_a0 ≠ capE) (r0 : List Int) (hd : D_slices_Clone_Sint64_int64 fu a0 = some r0) : ∃ v G', ACall Tryz.prog 70 [.slice p_a0 a0.length c_a0] H v G' ∧ ∃ (p_r0 : Option Addr) (c_r0 : Nat), (v = .slice p_r0 r0.length c_r0) ∧ St [] H G' [oseg p_r0 (ints r0)] ∧ Sb p_r0 r0.length c_r0 1 := by
 refine ACall.bodyX (args := [.slice p_a0 a0.length c_a0]) (N := 8) [(0, .slice p_a0 a0.length c_a0)] (fun v G' => ∃ (p_r0 : Option Addr) (c_r0 : Nat), (v = .slice p_r0 r0.length c_r0) ∧ St [] H G' [oseg p_r0 (ints r0)] ∧ Sb p_r0 r0.length c_r0 1) Tryz.func70 rfl rfl rfl rfl ?_
 unfold D_slices_Clone_Sint64_int64 at hd
 have S0 : St [] H H [] := St.nil H
 refine AX.sr (AO.a rfl rfl (AO.nil (AX.seq (AX.sr (AO.m rfl rfl (AO.p rfl (p_eqlNil underlying27 rfl e_a0) (AO.nil (AX.cond rfl (fun a2 => ?_) (fun a2 => ?_)))))))))
 ·obtain rfl : a0 = [] := List.eq_nil_of_length_eq_zero (vw_nil v_a0 a2).1
  obtain ⟨_, a5⟩ := chk_some hd
  refine AX.sr (AO.a rfl rfl (AO.nil (AX.ret ?_)))
  obtain rfl := some_inj a5
  have a6 : St [] H H (oseg none (ints []) :: _) := S0.nilseg 0
  exact ⟨.inr rfl, _, res1 rfl (rv_tmp rfl), none, 0, rfl, a6, Sb.nil⟩
 ·skip
  refine AX.skip (AX.sr ?_)
  obtain ⟨b8, a7, a8, a9, a1⟩ := S0.new (AObj.row false (ints []))
  refine AO.c rfl (s_build0 (i := a7) underlying27 sizeOf2 a8 a9) (AO.m rfl rfl ?_)
  obtain ⟨b0, b1⟩ := chk_some hd
  obtain ⟨a3, a4, b9, b2, b3, b4⟩ := a1.app (k := 0) rfl (Sb.lit (n := 0) (by decide)) (ints a0) a0.length (ints_len1 rfl)
  have b5 := b3.cellsEq (k := 0) (us' := ints a0) (List.nil_append _) rfl
  have b6 : Sb a3 (a0.length) a4 1 := (show 0 + a0.length = a0.length from len_nilapp (b := a0) rfl) ▸ b4
  refine AO.c rfl (s_app (by_ := 8) (us := ints []) (vs := ints a0) underlying27 underlying27 typeInfo2 sizeOf2 zeroValue2 rfl rfl rfl rfl rfl rfl rfl (a1.buf (k := 0) rfl (Sb.lit (n := 0) (by decide)) (ints_len1 rfl)) (a1.view v_a0) (ints_len1 rfl) ints_one b0 b2 (show 0 + a0.length = a0.length from len_nilapp (b := a0) rfl)) (AO.a rfl rfl (AO.nil (AX.ret ?_)))
  obtain rfl := some_inj b1
  have b7 := b5.front 0 rfl
  exact ⟨.inr rfl, _, res1 rfl (rv_tmp rfl), a3, a4, rfl, b7, b6⟩
set_option maxHeartbeats 4000000 in
theorem W_impl_areDifferent (fu : Nat) (H : AHeap) (p_a0 : Option Addr) (c_a0 : Nat) (a0 : List Int) (v_a0 : Vw H p_a0 a0.length c_a0 (ints a0)) (r0 : Bool) (hd : D_impl_areDifferent fu a0 = some r0) : ACall Tryz.prog 44 [.slice p_a0 a0.length c_a0] H (.bool r0) H := by
 refine ACall.bodyP (N := 19) [(0, .slice p_a0 a0.length c_a0)] Tryz.func44 rfl rfl rfl rfl ?_
 unfold D_impl_areDifferent at hd
 have S0 : St [] H H [] := St.nil H
 refine AX.sr (AO.a rfl rfl (AO.nil (AX.sr (AO.m rfl rfl ?_))))
 obtain ⟨_, b7, b8⟩ := bnd_some hd
 obtain ⟨_, b9, c0, b2, rfl, c1⟩ := W_slices_Values_Sint64_int64 fu H p_a0 c_a0 a0 (S0.view v_a0)  b7
 have a6 := S0.call c1
 refine AO.c rfl (o_call (vs := [.slice p_a0 a0.length c_a0]) rfl Tryz.call75 c0) ?_
 obtain ⟨a1, c2, c3⟩ := bnd_some b8
 obtain ⟨_, b3, c4, a2, a3, rfl, c5, a7⟩ := W_slices_Sorted_int64 fu b9 b2 false p_a0 c_a0 a0 (a6.view v_a0) (a6.get (k := 0) rfl) a1 c2
 have a4 := a6.call c5
 refine AO.c rfl (o_call (vs := [.func (.func 92) #[] #[.pointer (some ⟨b2, 0, none⟩)]]) rfl Tryz.call74 c4) (AO.a rfl rfl (AO.nil ?_))
 obtain ⟨c6, c7, c8⟩ := bnd_some c3
 refine AX.cut (fun t' H' => ∃ (a8 : Bool), a8 = c6 ∧ St [] H H' [] ∧ Am.Sub [(2, .bool a8)] t') ?_ ?_
 ·skip
  refine AX.region (AO.m rfl rfl ?_)
  obtain ⟨c9, d0, b4⟩ := bnd_some c7
  refine AO.c rfl (o_call (vs := [.slice a2 a1.length a3, .int .i64 0]) rfl Tryz.call76 (W_slices_Contains_Sint64_int64 fu b3 a2 a3 a1 (a4.oview (k := 0) rfl a7 (ints_len1 rfl)) 0 c9 d0)) (AO.p rfl (p_not rfl) (AO.m rfl rfl (AO.cases (d := 10) rfl (fun a9 => ?_) (fun a9 => ?_))))
  ·have d1 := bif_t a9 b4
   refine AO.gp rfl rfl rfl (p_move rfl) ?_
   obtain ⟨a5, d2, d3⟩ := bnd_some d1
   obtain ⟨_, d4, d5, b0, b5, rfl, d6, d7⟩ := W_slices_Clone_Sint64_int64 fu b3 a2 a3 a1 (a4.oview (k := 0) rfl a7 (ints_len1 rfl)) (a7.ne rfl) a5 d2
   have d8 := a4.call d6
   refine AO.gc rfl rfl rfl (o_call (vs := [.slice a2 a1.length a3]) rfl Tryz.call70 d5) ?_
   have b1 := d8.front 0 rfl
   obtain ⟨⟨b6, d9⟩, e0, e1⟩ := bnd_some d3
   obtain ⟨_, f0, e2, rfl, e3, f1⟩ := W_slices_Compact_Sint64_int64 fu d4 b0 b5 a5 d7 (b1.onodup (k := 0) rfl) (b1.omem (k := 0) rfl) b6 d9 e0
   have e4 := St.callM (A := [oseg b0 (ints a5)]) b1 e3 (by simp)
   refine AO.gc rfl rfl rfl (o_call (vs := [.slice b0 a5.length b5]) rfl Tryz.call77 e2) (AO.gp rfl rfl rfl (p_len_slice rfl underlying27) (AO.gp rfl rfl rfl (p_move rfl) (AO.gp rfl rfl rfl (p_len_slice rfl underlying27) (AO.gp rfl rfl rfl (p_eql rfl rfl) (AO.p rfl (p_pickT rfl rfl) (AO.a rfl rfl (AO.nil ?_)))))))
   have e5 := e4.keep 0
   exact ⟨(decide (((b6.length : Nat) : Int) = ((a1.length : Nat) : Int))), (some_inj e1), e5, Sub.k1 rfl (Sub.nil _)⟩
  ·have e6 := bif_f a9 b4
   refine AO.gn rfl rfl rfl (AO.gn rfl rfl rfl (AO.gn rfl rfl rfl (AO.gn rfl rfl rfl (AO.gn rfl rfl rfl (AO.gn rfl rfl rfl (AO.gn rfl rfl rfl (AO.p rfl (p_pickF rfl rfl) (AO.a rfl rfl (AO.nil ?_)))))))))
   have e7 := a4.keep 0
   exact ⟨false, (some_inj e6), e7, Sub.k1 rfl (Sub.nil _)⟩
 ·rintro t' f2 ⟨a8, rfl, e8, e9⟩
  refine AX.sub e9 (AX.ret ?_)
  obtain rfl := some_inj c8
  exact ⟨.inr rfl, _, res1 rfl (rv_tmp rfl), rfl, (flatB_ok rfl), e8.hold⟩
set_option maxHeartbeats 4000000 in
theorem W_impl_isStrong (fu : Nat) (H : AHeap) (a0 : Int) (p_a1 : Option Addr) (c_a1 : Nat) (T_a1 : Tb) (a1 : List (List Int)) (t_a1 : trows T_a1 = a1) (v_a1 : Vw H p_a1 a1.length c_a1 (tcells T_a1)) (w_a1 : TVw H T_a1) (r0 : Bool) (hd : D_impl_isStrong fu a0 a1 = some r0) : ACall Tryz.prog 29 [.int .i64 a0, .slice p_a1 a1.length c_a1] H (.bool r0) H := by
 refine ACall.bodyP (N := 9) [(0, .int .i64 a0), (1, .slice p_a1 a1.length c_a1)] Tryz.func29 rfl rfl rfl rfl ?_
 unfold D_impl_isStrong at hd
 have S0 : St [] H H [] := St.nil H
 refine AX.sr (AO.a rfl rfl (AO.nil (AX.sr (AO.m rfl rfl (AO.m rfl rfl ?_)))))
 obtain ⟨a2, a6, a7⟩ := bnd_some hd
 obtain ⟨_, a8, a9, a3, a4, rfl, b0, b1⟩ := W_impl_sums fu H a0 p_a1 c_a1 T_a1 a1 t_a1 (S0.view v_a1) (S0.tview w_a1) a2 a6
 have a5 := S0.call b0
 refine AO.c rfl (o_call (vs := [.int .i64 a0, .slice p_a1 a1.length c_a1]) rfl Tryz.call30 a9) ?_
 obtain ⟨b2, b3, b4⟩ := bnd_some a7
 refine AO.c rfl (o_call (vs := [.slice a3 a2.length a4]) rfl Tryz.call44 (W_impl_areDifferent fu a8 a3 a4 a2 (a5.oview (k := 0) rfl b1 (ints_len1 rfl)) b2 b3)) (AO.a rfl rfl (AO.nil (AX.ret ?_)))
 obtain rfl := some_inj b4
 exact ⟨.inr rfl, _, res1 rfl (rv_tmp rfl), rfl, (flatB_ok rfl), a5.hold⟩
set_option maxHeartbeats 4000000 in
theorem W_slices_IndexFunc_Sint64_int64 (fu : Nat) (H : AHeap) (p_a0 : Option Addr) (c_a0 : Nat) (a0 : List Int) (v_a0 : Vw H p_a0 a0.length c_a0 (ints a0)) (f_a1 : FuncId) (fs_a1 cs_a1 : Array Value) (a1 : Int → Option Bool) (hc_a1 : ∀ args w, (callFunc f_a1 args).run Tryz.prog w = .ok (.enter f_a1 args) w) (hq_a1 : ∀ H', ExtG H H' → ∀ (x0_a1 : Int) (b : Bool), a1 x0_a1 = some b → ACall Tryz.prog f_a1 (fs_a1.toList ++ [.int .i64 x0_a1] ++ cs_a1.toList) H' (.bool b) H') (r0 : Int) (hd : D_slices_IndexFunc_Sint64_int64 fu a0 a1 = some r0) : ACall Tryz.prog 71 [.slice p_a0 a0.length c_a0, .func (.func f_a1) fs_a1 cs_a1] H (.int .i64 r0) H := by
 refine ACall.bodyP (N := 19) [(0, .slice p_a0 a0.length c_a0), (1, .func (.func f_a1) fs_a1 cs_a1)] Tryz.func71 rfl rfl rfl rfl ?_
 unfold D_slices_IndexFunc_Sint64_int64 at hd
 have S0 : St [] H H [] := St.nil H
 refine AX.sr (AO.a rfl rfl (AO.nil (AX.seq (AX.sr (AO.m rfl rfl (AO.p rfl (p_len_slice rfl underlying27) (AO.m rfl rfl (AO.nil ?_))))))))
 obtain ⟨a9, b2, b0⟩ := bnd_some hd
 refine AX.cutS (fun t' H' => .inl () = a9 ∧ St [] H H' [] ∧ Am.Sub [] t') ?_ ?_
 ·refine AX.block (AX.loopF (fun s' t' H' => ∃ (a2 : Int), a2 = s' ∧ St [] H H' [] ∧ Am.Sub [(0, .slice p_a0 a0.length c_a0), (1, .func (.func f_a1) fs_a1 cs_a1), (7, .int .i64 ((a0.length : Nat) : Int)), (8, .int .i64 a2)] t') b2 ?_ ?_)
  ·skip
   exact ⟨0, rfl, S0, Sub.k4 rfl rfl rfl rfl (Sub.nil _)⟩
  ·rintro c7 _ t' b3 ⟨a2, rfl, a3, b4⟩ c8 a4 a5
   refine AX.sub b4 ?_
   unfold D_slices_IndexFunc_Sint64_int64_s0 at a4
   refine AX.sr (AO.p rfl (p_lss rfl rfl) (AO.nil (AX.seq (AX.cond rfl (fun a6 => ?_) (fun a6 => ?_)))))
   ·have b5 := bif_t a6 a4
    refine AX.skip (AX.seq (AX.block (AX.sr (AO.m rfl rfl (AO.a rfl rfl (AO.nil (AX.sr (AO.m rfl rfl (AO.m rfl rfl (AO.m rfl rfl ?_))))))))))
    obtain ⟨a7, b6⟩ := chk_some b5
    refine AO.p rfl (s_indexV (q := off p_a0 + a2.toNat) underlying27 sizeOf2 rfl ((a3.view v_a0).p (ints_get (lt_len rfl (inR_lt a7)))) rfl a7 (o1 _ _)) (AO.c rfl (s_load isAgg2 rfl ((a3.view v_a0).get _ _ (ints_get (lt_len rfl (inR_lt a7))))) ?_)
    obtain ⟨b7, b8, b1⟩ := bnd_some b6
    refine AO.c rfl (o_callV (vs := [.int .i64 (rd a0 a2.toNat)]) rfl rfl hc_a1 (hq_a1 b3 a3.ext (rd a0 a2.toNat) b7 b8)) (AO.nil (AX.cond rfl (fun a8 => ?_) (fun a8 => ?_)))
    ·have b9 := bif_t a8 b1
     refine AX.sr (AO.m rfl rfl (AO.a rfl rfl (AO.nil (AX.ret ?_))))
     obtain rfl := some_inj b9
     have c0 : _ = a9 := a5
     subst c0
     obtain rfl := some_inj b0
     exact ⟨.inr rfl, _, res1 rfl (rv_tmp rfl), rfl, (flatB_ok rfl), a3.hold⟩
    ·have c1 := bif_f a8 b1
     refine AX.skip (AX.region ?_)
     obtain ⟨c2, c3⟩ := chk_some c1
     refine AO.p rfl (p_addE rfl rfl c2) (AO.m rfl rfl (AO.nil ?_))
     obtain rfl := some_inj c3
     exact ⟨a2 + 1, a5, (a2 + 1), rfl, a3, Sub.k4 rfl rfl rfl rfl (Sub.nil _)⟩
   ·have c4 := bif_f a6 a4
    refine AX.exit ?_
    obtain rfl := some_inj c4
    exact ⟨a5, a3, Sub.nil _⟩
 ·rintro t' c9 ⟨rfl, c5, c6⟩
  refine ⟨_, c6, ?_⟩
  refine AX.sr (AO.a rfl rfl (AO.nil (AX.ret ?_)))
  obtain rfl := some_inj b0
  exact ⟨.inr rfl, _, res1 rfl (rv_tmp rfl), rfl, (flatB_ok rfl), c5.hold⟩
set_option maxHeartbeats 4000000 in
theorem W_slices_ContainsFunc_Sint64_int64 (fu : Nat) (H : AHeap) (p_a0 : Option Addr) (c_a0 : Nat) (a0 : List Int) (v_a0 : Vw H p_a0 a0.length c_a0 (ints a0)) (f_a1 : FuncId) (fs_a1 cs_a1 : Array Value) (a1 : Int → Option Bool) (hc_a1 : ∀ args w, (callFunc f_a1 args).run Tryz.prog w = .ok (.enter f_a1 args) w) (hq_a1 : ∀ H', ExtG H H' → ∀ (x0_a1 : Int) (b : Bool), a1 x0_a1 = some b → ACall Tryz.prog f_a1 (fs_a1.toList ++ [.int .i64 x0_a1] ++ cs_a1.toList) H' (.bool b) H') (r0 : Bool) (hd : D_slices_ContainsFunc_Sint64_int64 fu a0 a1 = some r0) : ACall Tryz.prog 37 [.slice p_a0 a0.length c_a0, .func (.func f_a1) fs_a1 cs_a1] H (.bool r0) H := by
 refine ACall.bodyP (N := 9) [(0, .slice p_a0 a0.length c_a0), (1, .func (.func f_a1) fs_a1 cs_a1)] Tryz.func37 rfl rfl rfl rfl ?_
 unfold D_slices_ContainsFunc_Sint64_int64 at hd
 have S0 : St [] H H [] := St.nil H
 refine AX.sr (AO.a rfl rfl (AO.nil (AX.sr (AO.m rfl rfl (AO.m rfl rfl ?_)))))
 obtain ⟨a2, a3, a4⟩ := bnd_some hd
 refine AO.c rfl (o_call (vs := [.slice p_a0 a0.length c_a0, .func (.func f_a1) fs_a1 cs_a1]) rfl Tryz.call71 (W_slices_IndexFunc_Sint64_int64 fu H p_a0 c_a0 a0 (S0.view v_a0) f_a1 fs_a1 cs_a1 a1 hc_a1 (fun G' hG => hq_a1 G' (S0.ext.trans hG)) a2 a3)) (AO.p rfl (p_geq rfl rfl) (AO.a rfl rfl (AO.nil (AX.ret ?_))))
 obtain rfl := some_inj a4
 exact ⟨.inr rfl, _, res1 rfl (rv_tmp rfl), rfl, (flatB_ok rfl), S0.hold⟩
set_option maxHeartbeats 4000000 in
theorem W_impl_isSkew_1 (fu : Nat) (H : AHeap) (a0 : Int) (i_b0 : Nat) (ro_b0 : Bool) (p_b0_0 : Option Addr) (c_b0_0 : Nat) (b0_0 : List Int) (v_b0_0 : Vw H p_b0_0 b0_0.length c_b0_0 (ints b0_0)) (o_b0 : hget H i_b0 = .row ro_b0 ([.slice p_b0_0 b0_0.length c_b0_0])) (i_b1 : Nat) (ro_b1 : Bool) (b1_0 : Int) (o_b1 : hget H i_b1 = .row ro_b1 ([.int .i64 b1_0])) (r0 : Bool) (hd : D_impl_isSkew_1 fu a0 b0_0 b1_0 = some r0) : ACall Tryz.prog 83 [.int .i64 a0, .pointer (some ⟨i_b0, 0, none⟩), .pointer (some ⟨i_b1, 0, none⟩)] H (.bool r0) H := by
 refine ACall.bodyP (N := 10) [(0, .int .i64 a0), (1, .pointer (some ⟨i_b0, 0, none⟩)), (2, .pointer (some ⟨i_b1, 0, none⟩))] Tryz.func83 rfl rfl rfl rfl ?_
 unfold D_impl_isSkew_1 at hd
 have S0 : St [] H H [] := St.nil H
 refine AX.sr (AO.a rfl rfl (AO.nil (AX.sr (AO.c rfl (s_load isAgg27 rfl (row_cell (S0.old o_b0 (by simp)) rfl)) (AO.c rfl (s_load isAgg2 rfl (row_cell (S0.old o_b1 (by simp)) rfl)) (AO.m rfl rfl ?_))))))
 obtain ⟨a1, a2⟩ := chk_some hd
 refine AO.p rfl (p_subE rfl rfl a1) ?_
 obtain ⟨a3, a4, a5⟩ := bnd_some a2
 refine AO.c rfl (o_call (vs := [.slice p_b0_0 b0_0.length c_b0_0, .int .i64 (b1_0 - a0)]) rfl Tryz.call76 (W_slices_Contains_Sint64_int64 fu H p_b0_0 c_b0_0 b0_0 (S0.view v_b0_0) (b1_0 - a0) a3 a4)) (AO.a rfl rfl (AO.nil (AX.ret ?_)))
 obtain rfl := some_inj a5
 exact ⟨.inr rfl, _, res1 rfl (rv_tmp rfl), rfl, (flatB_ok rfl), S0.hold⟩
set_option maxHeartbeats 4000000 in
theorem W_impl_isSkew (fu : Nat) (H : AHeap) (a0 : Int) (p_a1 : Option Addr) (c_a1 : Nat) (T_a1 : Tb) (a1 : List (List Int)) (t_a1 : trows T_a1 = a1) (v_a1 : Vw H p_a1 a1.length c_a1 (tcells T_a1)) (w_a1 : TVw H T_a1) (r0 : Bool) (hd : D_impl_isSkew fu a0 a1 = some r0) : ACall Tryz.prog 66 [.int .i64 a0, .slice p_a1 a1.length c_a1] H (.bool r0) H := by
 refine ACall.bodyP (N := 18) [(0, .int .i64 a0), (1, .slice p_a1 a1.length c_a1)] Tryz.func66 rfl rfl rfl rfl ?_
 unfold D_impl_isSkew at hd
 have S0 : St [] H H [] := St.nil H
 refine AX.sr ?_
 obtain ⟨b6, a5, b7, b8, a6⟩ := S0.new (AObj.row false ([.int .i64 a0]))
 refine AO.c rfl (s_box (i := a5) (cs := [.int .i64 a0]) rfl b7 rfl b8) (AO.a rfl rfl (AO.nil (AX.sr (AO.c rfl (s_load isAgg2 rfl (row_cell (a6.get (k := 0) rfl) rfl)) (AO.m rfl rfl ?_)))))
 obtain ⟨a3, b9, c0⟩ := bnd_some hd
 obtain ⟨_, e0, c1, a7, a8, rfl, c2, b1⟩ := W_impl_sums fu b6 a0 p_a1 c_a1 T_a1 a1 t_a1 (a6.view v_a1) (a6.tview w_a1) a3 b9
 have c3 := a6.call c2
 refine AO.c rfl (o_call (vs := [.int .i64 a0, .slice p_a1 a1.length c_a1]) rfl Tryz.call30 c1) ?_
 obtain ⟨e1, a4, c4, c5, b2⟩ := c3.new (AObj.row false ([.slice none 0 0]))
 refine AO.c rfl (s_alloc (i := a4) (cs := [.slice none 0 0]) zeroValue27 rfl rfl c4 c5) ?_
 obtain ⟨b3, c6, a2⟩ := b2.set (k := 0) (i := a4) rfl (AObj.row false ([.slice a7 a3.length a8]))
 refine AO.s (s_store sizeOf27 rfl rfl rfl (b2.get (k := 0) rfl) (Nat.le_of_ble_eq_true rfl) c6) (AO.nil ?_)
 obtain ⟨c7, c8, c9⟩ := bnd_some c0
 refine AX.cut (fun t' H' => ∃ (a9 : Bool), a9 = c7 ∧ St [] H H' [] ∧ Am.Sub [(4, .bool a9)] t') ?_ ?_
 ·skip
  refine AX.region (AO.c rfl (s_load isAgg2 rfl (row_cell (a2.get (k := 2) rfl) rfl)) (AO.m rfl rfl ?_))
  obtain ⟨d0, d1, b4⟩ := bnd_some c8
  refine AO.c rfl (o_call (vs := [.int .i64 a0, .slice p_a1 a1.length c_a1]) rfl Tryz.call29 (W_impl_isStrong fu b3 a0 p_a1 c_a1 T_a1 a1 t_a1 (a2.view v_a1) (a2.tview w_a1) d0 d1)) (AO.m rfl rfl (AO.cases (d := 12) rfl (fun b0 => ?_) (fun b0 => ?_)))
  ·have d2 := bif_t b0 b4
   refine AO.gc rfl rfl rfl (s_load isAgg27 rfl (row_cell (a2.get (k := 0) rfl) rfl)) (AO.gp rfl rfl rfl (p_makeFunc (fs := []) (cs := [.pointer (some ⟨a4, 0, none⟩), .pointer (some ⟨a5, 0, none⟩)]) rfl rfl) ?_)
   obtain ⟨b5, d3, d4⟩ := bnd_some d2
   refine AO.gc rfl rfl rfl (o_call (vs := [.slice a7 a3.length a8, .func (.func 83) #[] #[.pointer (some ⟨a4, 0, none⟩), .pointer (some ⟨a5, 0, none⟩)]]) rfl Tryz.call37 (W_slices_ContainsFunc_Sint64_int64 fu b3 a7 a8 a3 (a2.oview (k := 1) rfl b1 (ints_len1 rfl)) 83 #[] #[.pointer (some ⟨a4, 0, none⟩), .pointer (some ⟨a5, 0, none⟩)] (fun x0' => D_impl_isSkew_1 fu x0' a3 a0) Tryz.call83 (fun G' hG x0' b' hb' => W_impl_isSkew_1 fu G' x0' a4 false a7 a8 a3 (hG.view (a2.oview (k := 1) rfl b1 (ints_len1 rfl))) (hG.get (a2.get (k := 0) rfl)) a5 false a0 (hG.get (a2.get (k := 2) rfl)) b' hb') b5 d3)) (AO.gp rfl rfl rfl (p_not rfl) (AO.p rfl (p_pickT rfl rfl) (AO.a rfl rfl (AO.nil ?_))))
   have d5 := a2.keep 0
   exact ⟨(!b5), (some_inj d4), d5, Sub.k1 rfl (Sub.nil _)⟩
  ·have d6 := bif_f b0 b4
   refine AO.gn rfl rfl rfl (AO.gn rfl rfl rfl (AO.gn rfl rfl rfl (AO.gn rfl rfl rfl (AO.p rfl (p_pickF rfl rfl) (AO.a rfl rfl (AO.nil ?_))))))
   have d7 := a2.keep 0
   exact ⟨false, (some_inj d6), d7, Sub.k1 rfl (Sub.nil _)⟩
 ·rintro t' e2 ⟨a9, rfl, d8, d9⟩
  refine AX.sub d9 (AX.ret ?_)
  obtain rfl := some_inj c9
  exact ⟨.inr rfl, _, res1 rfl (rv_tmp rfl), rfl, (flatB_ok rfl), d8.hold⟩
set_option maxHeartbeats 4000000 in
theorem W_spec_l03Strong (fu : Nat) (H : AHeap) (a0 : Int) (p_a1 : Option Addr) (c_a1 : Nat) (T_a1 : Tb) (a1 : List (List Int)) (t_a1 : trows T_a1 = a1) (v_a1 : Vw H p_a1 a1.length c_a1 (tcells T_a1)) (w_a1 : TVw H T_a1) (r0 : Bool) (hd : D_spec_l03Strong fu a0 a1 = some r0) : ACall Tryz.prog 32 [.int .i64 a0, .slice p_a1 a1.length c_a1] H (.bool r0) H := by
 refine ACall.bodyP (N := 34) [(0, .int .i64 a0), (1, .slice p_a1 a1.length c_a1)] Tryz.func32 rfl rfl rfl rfl ?_
 unfold D_spec_l03Strong at hd
 have S0 : St [] H H [] := St.nil H
 refine AX.sr (AO.a rfl rfl (AO.nil (AX.seq (DR.startS [false, false, false, false, true, false, false] mix (by kernel_rfl) (fun hst => ?_)))))
 refine DR.p rfl rfl (p_move rfl) ?_
 obtain ⟨c6, c7⟩ := chk_some hd
 obtain ⟨c8, a6, b7, c9, a7⟩ := S0.new (AObj.row false (bls (List.replicate a0.toNat false)))
 refine DR.a rfl rfl b7 c9 (a_make1 (v := .bool false) (by_ := 1) underlying76 typeInfo4 sizeOf4 zeroValue4 rfl rfl rfl rfl rfl rfl c6 bls_rep) (DR.p rfl rfl (p_move rfl) (DR.p rfl rfl (p_move rfl) ?_))
 obtain ⟨a3, d0, d1⟩ := bnd_some c7
 obtain ⟨_, f8, d2, b8, d3, rfl, b9, a8⟩ := W_spec_l03Sums fu c8 a0 p_a1 c_a1 T_a1 a1 t_a1 (a7.view v_a1) (a7.tview w_a1) a3 d0
 have b1 := a7.call b9
 refine DR.w rfl rfl (o_call (vs := [.int .i64 a0, .slice p_a1 a1.length c_a1]) rfl Tryz.call33 d2) (b9.len) (DR.p rfl rfl (p_assign rfl) (DR.p rfl rfl (p_assign rfl) (DR.nil 7 [(1, 4)] hst (by kernel_rfl) ⟨(fun _ => by rw [b7]; exact (b1.get (k := 1) rfl).trans (a7.get (k := 0) rfl).symm), trivial⟩ (AX.sr (AO.m rfl rfl ?_)))))
 obtain ⟨c0, d4⟩ := chk_some d1
 refine AO.p rfl (s_indexV (q := 0) underlying76 sizeOf4 rfl rfl rfl c0 rfl) ?_
 obtain ⟨f9, d5, d6⟩ := b1.set (k := 1) (i := a6) rfl (AObj.row false (bls ((List.replicate a0.toNat false).set 0 true)))
 refine AO.s (s_store sizeOf4 rfl rfl rfl (b1.get (k := 1) rfl) (lt_len ((bls_length _).trans len_rep) (inR_lt c0)) ((congrArg (fun l => List.set _ _ (AObj.row false l)) (bls_set _ _ _)).trans d5)) (AO.nil (AX.seq (AX.sr (AO.a rfl rfl (AO.nil ?_)))))
 obtain ⟨c1, d7, c2⟩ := bnd_some d4
 refine AX.cutS (fun t' H' => .inl () = c1 ∧ St [] H H' [] ∧ Am.Sub [] t') ?_ ?_
 ·refine AX.block (AX.loopF (fun s' t' H' => ∃ (a4 : List Bool) (a2 : Int), (a4, a2) = s' ∧ St [] H H' [[(a6, AObj.row false (bls a4))], oseg b8 (ints a3)] ∧ a4.length = a0.toNat ∧ Am.Sub [(5, .slice (some (Addr.mk a6 0 none)) a0.toNat a0.toNat), (6, .slice b8 a3.length d3), (7, .int .i64 a2)] t') d7 ?_ ?_)
  ·skip
   have d8 := d6.front 0 rfl
   have d9 := d8.front 1 rfl
   exact ⟨((List.replicate a0.toNat false).set 0 true), 0, rfl, d9, (len_set len_rep), Sub.k2 rfl rfl (Sub.k1 rfl (Sub.nil _))⟩
  ·rintro g0 _ t' g1 ⟨a4, a2, rfl, a5, b2, e0⟩ g2 b3 b4
   refine AX.sub e0 ?_
   unfold D_spec_l03Strong_s0 at b3
   refine AX.seq (AX.sr (AO.m rfl rfl (AO.m rfl rfl (AO.p rfl (p_len_slice rfl underlying27) (AO.p rfl (p_lss rfl rfl) (AO.nil (AX.cond rfl (fun b5 => ?_) (fun b5 => ?_))))))))
   ·have e1 := bif_t b5 b3
    refine AX.skip (AX.seq (AX.block (AX.seq (AX.sr (AO.m rfl rfl (AO.m rfl rfl (AO.m rfl rfl ?_)))))))
    obtain ⟨a9, e2⟩ := chk_some e1
    refine AO.p rfl (s_indexV (q := a2.toNat) underlying27 sizeOf2 rfl (a8.at (inR_pos a9)) rfl a9 (z1 _)) (AO.c rfl (s_load isAgg2 rfl (row_cell (a5.oat (k := 1) rfl (a8.at (inR_pos a9))) (ints_get (lt_len rfl (inR_lt a9))))) ?_)
    obtain ⟨c3, c4⟩ := chk_some e2
    refine AO.p rfl (s_indexV (q := (rd a3 a2.toNat).toNat) underlying76 sizeOf4 rfl rfl rfl c3 (z1 _)) (AO.c rfl (s_load isAgg4 rfl (row_cell (a5.get (k := 0) rfl) (bls_get (lt_len b2 (inR_lt c3))))) (AO.nil (AX.cond rfl (fun b6 => ?_) (fun b6 => ?_))))
    ·have e3 := bif_t b6 c4
     refine AX.sr (AO.a rfl rfl (AO.nil (AX.ret ?_)))
     obtain rfl := some_inj e3
     have e4 : _ = c1 := b4
     subst e4
     obtain rfl := some_inj c2
     exact ⟨.inr rfl, _, res1 rfl (rv_tmp rfl), rfl, (flatB_ok rfl), a5.hold⟩
    ·have e5 := bif_f b6 c4
     refine AX.skip (AX.region (AO.m rfl rfl (AO.m rfl rfl (AO.m rfl rfl ?_))))
     obtain ⟨b0, e6⟩ := chk_some e5
     refine AO.p rfl (s_indexV (q := a2.toNat) underlying27 sizeOf2 rfl (a8.at (inR_pos b0)) rfl b0 (z1 _)) (AO.c rfl (s_load isAgg2 rfl (row_cell (a5.oat (k := 1) rfl (a8.at (inR_pos b0))) (ints_get (lt_len rfl (inR_lt b0))))) ?_)
     obtain ⟨c5, e7⟩ := chk_some e6
     refine AO.p rfl (s_indexV (q := (rd a3 a2.toNat).toNat) underlying76 sizeOf4 rfl rfl rfl c5 (z1 _)) ?_
     obtain ⟨g3, e8, e9⟩ := a5.set (k := 0) (i := a6) rfl (AObj.row false (bls (a4.set ((rd a3 a2.toNat).toNat) true)))
     refine AO.s (s_store sizeOf4 rfl rfl rfl (a5.get (k := 0) rfl) (lt_len ((bls_length _).trans b2) (inR_lt c5)) ((congrArg (fun l => List.set _ _ (AObj.row false l)) (bls_set _ _ _)).trans e8)) (AO.nil (AX.region (AO.m rfl rfl ?_)))
     obtain ⟨f0, f1⟩ := chk_some e7
     refine AO.p rfl (p_addE rfl rfl f0) (AO.a rfl rfl (AO.nil ?_))
     obtain rfl := some_inj f1
     have f2 := e9.front 1 rfl
     have f3 := f2.front 1 rfl
     exact ⟨((a4.set ((rd a3 a2.toNat).toNat) true), a2 + 1), b4, (a4.set ((rd a3 a2.toNat).toNat) true), (a2 + 1), rfl, f3, (len_set b2), Sub.k2 rfl rfl (Sub.k1 rfl (Sub.nil _))⟩
   ·have f4 := bif_f b5 b3
    refine AX.exit ?_
    obtain rfl := some_inj f4
    have f5 := a5.keep 0
    exact ⟨b4, f5, Sub.nil _⟩
 ·rintro t' g4 ⟨rfl, f6, f7⟩
  refine ⟨_, f7, ?_⟩
  refine AX.sr (AO.a rfl rfl (AO.nil (AX.ret ?_)))
  obtain rfl := some_inj c2
  exact ⟨.inr rfl, _, res1 rfl (rv_tmp rfl), rfl, (flatB_ok rfl), f6.hold⟩
set_option maxHeartbeats 4000000 in
theorem W_spec_l03Skew (fu : Nat) (H : AHeap) (a0 : Int) (p_a1 : Option Addr) (c_a1 : Nat) (T_a1 : Tb) (a1 : List (List Int)) (t_a1 : trows T_a1 = a1) (v_a1 : Vw H p_a1 a1.length c_a1 (tcells T_a1)) (w_a1 : TVw H T_a1) (r0 : Bool) (hd : D_spec_l03Skew fu a0 a1 = some r0) : ACall Tryz.prog 67 [.int .i64 a0, .slice p_a1 a1.length c_a1] H (.bool r0) H := by
 refine ACall.bodyP (N := 37) [(0, .int .i64 a0), (1, .slice p_a1 a1.length c_a1)] Tryz.func67 rfl rfl rfl rfl ?_
 unfold D_spec_l03Skew at hd
 have S0 : St [] H H [] := St.nil H
 refine AX.sr (AO.a rfl rfl (AO.nil (AX.sr (AO.m rfl rfl (AO.m rfl rfl ?_)))))
 obtain ⟨a3, c5, c6⟩ := bnd_some hd
 obtain ⟨_, g4, c7, a4, b0, rfl, c8, a7⟩ := W_spec_l03Sums fu H a0 p_a1 c_a1 T_a1 a1 t_a1 (S0.view v_a1) (S0.tview w_a1) a3 c5
 have c9 := S0.call c8
 refine AO.c rfl (o_call (vs := [.int .i64 a0, .slice p_a1 a1.length c_a1]) rfl Tryz.call33 c7) (AO.a rfl rfl (AO.nil (AX.seq (AX.sr (AO.a rfl rfl (AO.nil ?_))))))
 obtain ⟨b9, d0, c0⟩ := bnd_some c6
 refine AX.cutS (fun t' H' => .inl () = b9 ∧ St [] H H' [] ∧ Am.Sub [(0, .int .i64 a0), (1, .slice p_a1 a1.length c_a1)] t') ?_ ?_
 ·refine AX.block (AX.loopF (fun s' t' H' => ∃ (a2 : Int), a2 = s' ∧ St [] H H' [oseg a4 (ints a3)] ∧ Am.Sub [(0, .int .i64 a0), (1, .slice p_a1 a1.length c_a1), (5, .slice a4 a3.length b0), (6, .int .i64 a2)] t') d0 ?_ ?_)
  ·skip
   have d1 := c9.front 0 rfl
   exact ⟨0, rfl, d1, Sub.k4 rfl rfl rfl rfl (Sub.nil _)⟩
  ·rintro g5 _ t' g6 ⟨a2, rfl, c1, d2⟩ g7 b1 b2
   refine AX.sub d2 ?_
   unfold D_spec_l03Skew_s0 at b1
   refine AX.seq (AX.sr (AO.m rfl rfl (AO.m rfl rfl (AO.p rfl (p_len_slice rfl underlying27) (AO.p rfl (p_lss rfl rfl) (AO.nil (AX.cond rfl (fun b3 => ?_) (fun b3 => ?_))))))))
   ·have d3 := bif_t b3 b1
    refine AX.skip (AX.seq (AX.block (AX.sr (AO.a rfl rfl (AO.nil ?_)))))
    obtain ⟨c2, d4, c3⟩ := bnd_some d3
    refine AX.cutS (fun t' H' => .inl () = c2 ∧ St [] H H' [oseg a4 (ints a3)] ∧ Am.Sub [(0, .int .i64 a0), (1, .slice p_a1 a1.length c_a1), (5, .slice a4 a3.length b0), (6, .int .i64 a2)] t') ?_ ?_
    ·refine AX.block (AX.loopF (fun s' t' H' => ∃ (a5 : Int), a5 = s' ∧ St [] H H' [oseg a4 (ints a3)] ∧ Am.Sub [(0, .int .i64 a0), (1, .slice p_a1 a1.length c_a1), (5, .slice a4 a3.length b0), (6, .int .i64 a2), (7, .int .i64 a5)] t') d4 ?_ ?_)
     ·skip
      have d5 := c1.front 0 rfl
      exact ⟨0, rfl, d5, Sub.k4 rfl rfl rfl rfl (Sub.k1 rfl (Sub.nil _))⟩
     ·rintro g8 _ t' g9 ⟨a5, rfl, a6, d6⟩ h0 b4 b5
      refine AX.sub d6 ?_
      unfold D_spec_l03Skew_s1 at b4
      refine AX.seq (AX.sr (AO.m rfl rfl (AO.m rfl rfl (AO.p rfl (p_leq rfl rfl) (AO.nil (AX.cond rfl (fun b6 => ?_) (fun b6 => ?_)))))))
      ·have d7 := bif_t b6 b4
       refine AX.skip (AX.seq (AX.block (AX.seq (DR.startS [false, false, false, false, false, false, false, false, false, false, false, false] mix (by kernel_rfl) (fun hst => ?_)))))
       refine DR.p rfl rfl (p_move rfl) (DR.p rfl rfl (p_move rfl) ?_)
       obtain ⟨a8, d8⟩ := chk_some d7
       refine DR.p rfl rfl (s_indexV (q := a2.toNat) underlying27 sizeOf2 rfl (a7.at (inR_pos a8)) rfl a8 (z1 _)) (DR.r rfl rfl (r_load rfl isAgg2) (one_read (row_cell (a6.oat (k := 0) rfl (a7.at (inR_pos a8))) (ints_get (lt_len rfl (inR_lt a8)))) (.of_flat0 rfl)) (DR.p rfl rfl (p_move rfl) (DR.p rfl rfl (p_move rfl) ?_)))
       obtain ⟨a9, d9⟩ := chk_some d8
       refine DR.p rfl rfl (s_indexV (q := a5.toNat) underlying27 sizeOf2 rfl (a7.at (inR_pos a9)) rfl a9 (z1 _)) (DR.r rfl rfl (r_load rfl isAgg2) (one_read (row_cell (a6.oat (k := 0) rfl (a7.at (inR_pos a9))) (ints_get (lt_len rfl (inR_lt a9)))) (.of_flat0 rfl)) ?_)
       obtain ⟨e0, e1⟩ := chk_some d9
       refine DR.p rfl rfl (p_addE rfl rfl e0) (DR.p rfl rfl (p_move rfl) ?_)
       obtain ⟨e2, c4⟩ := chk_some e1
       refine DR.p rfl rfl (p_remE rfl rfl e2) (DR.p rfl rfl (p_eql rfl rfl) (DR.nil 12 [] hst (by kernel_rfl) trivial (AX.cond rfl (fun b7 => ?_) (fun b7 => ?_))))
       ·have e3 := bif_t b7 c4
        refine AX.sr (AO.a rfl rfl (AO.nil (AX.ret ?_)))
        obtain rfl := some_inj e3
        have e4 : _ = c2 := b5
        subst e4
        obtain rfl := some_inj c3
        have e5 : _ = b9 := b2
        subst e5
        obtain rfl := some_inj c0
        exact ⟨.inr rfl, _, res1 rfl (rv_tmp rfl), rfl, (flatB_ok rfl), a6.hold⟩
       ·have e6 := bif_f b7 c4
        refine AX.skip (AX.region (AO.m rfl rfl ?_))
        obtain ⟨e7, e8⟩ := chk_some e6
        refine AO.p rfl (p_addE rfl rfl e7) (AO.a rfl rfl (AO.nil ?_))
        obtain rfl := some_inj e8
        have e9 := a6.front 0 rfl
        exact ⟨a5 + 1, b5, (a5 + 1), rfl, e9, Sub.k4 rfl rfl rfl rfl (Sub.k1 rfl (Sub.nil _))⟩
      ·have f0 := bif_f b6 b4
       refine AX.exit ?_
       obtain rfl := some_inj f0
       have f1 := a6.front 0 rfl
       exact ⟨b5, f1, Sub.k4 rfl rfl rfl rfl (Sub.nil _)⟩
    ·rintro t' h1 ⟨rfl, f2, f3⟩
     refine ⟨_, f3, ?_⟩
     refine AX.region (AO.m rfl rfl ?_)
     obtain ⟨f4, f5⟩ := chk_some c3
     refine AO.p rfl (p_addE rfl rfl f4) (AO.a rfl rfl (AO.nil ?_))
     obtain rfl := some_inj f5
     have f6 := f2.front 0 rfl
     exact ⟨a2 + 1, b2, (a2 + 1), rfl, f6, Sub.k4 rfl rfl rfl rfl (Sub.nil _)⟩
   ·have f7 := bif_f b3 b1
    refine AX.exit ?_
    obtain rfl := some_inj f7
    have f8 := c1.keep 0
    exact ⟨b2, f8, Sub.k2 rfl rfl (Sub.nil _)⟩
 ·rintro t' f9 ⟨rfl, b8, g0⟩
  refine ⟨_, g0, ?_⟩
  refine AX.sr (AO.m rfl rfl (AO.m rfl rfl ?_))
  obtain ⟨g1, g2, g3⟩ := bnd_some c0
  refine AO.c rfl (o_call (vs := [.int .i64 a0, .slice p_a1 a1.length c_a1]) rfl Tryz.call32 (W_spec_l03Strong fu f9 a0 p_a1 c_a1 T_a1 a1 t_a1 (b8.view v_a1) (b8.tview w_a1) g1 g2)) (AO.a rfl rfl (AO.nil (AX.ret ?_)))
  obtain rfl := some_inj g3
  exact ⟨.inr rfl, _, res1 rfl (rv_tmp rfl), rfl, (flatB_ok rfl), b8.hold⟩
set_option maxHeartbeats 4000000 in
theorem W_impl_IsStrong (fu : Nat) (H : AHeap) (a0 : Int) (p_a1 : Option Addr) (c_a1 : Nat) (T_a1 : Tb) (a1 : List (List Int)) (t_a1 : trows T_a1 = a1) (v_a1 : Vw H p_a1 a1.length c_a1 (tcells T_a1)) (w_a1 : TVw H T_a1) (r0 : Bool) (r1 : Int) (hd : D_impl_IsStrong fu a0 a1 = some (r0, r1)) : ACall Tryz.prog 18 [.int .i64 a0, .slice p_a1 a1.length c_a1] H (.tuple #[.bool r0, .int .i64 r1]) H := by
 refine ACall.bodyP (N := 17) [(0, .int .i64 a0), (1, .slice p_a1 a1.length c_a1)] Tryz.func18 rfl rfl rfl rfl ?_
 unfold D_impl_IsStrong at hd
 have S0 : St [] H H [] := St.nil H
 refine AX.sr (AO.a rfl rfl (AO.a rfl rfl (AO.nil (AX.seq (AX.sr (AO.m rfl rfl (AO.m rfl rfl ?_)))))))
 obtain ⟨a5, a3, a7, a8, a2⟩ := S0.new (AObj.row false ([.slice p_a1 a1.length c_a1]))
 refine AO.c rfl (s_buildSl (i := a3) (vs := [(0, .slice p_a1 a1.length c_a1)]) (cs := [.slice p_a1 a1.length c_a1]) underlying66 sizeOf24 zeroValue24 rfl rfl (by decide) rfl rfl a7 a8) ?_
 obtain ⟨a9, b0, a6⟩ := bnd_some hd
 refine AO.c rfl (o_call (vs := [.int .i64 a0, .func (.func 28) #[] #[], .slice (some (Addr.mk a3 0 none)) 1 1]) rfl Tryz.call27 (W_impl_starterCode fu a5 a0 28 #[] #[] (fun _ => D_impl_always fu ) Tryz.call28 (fun G' hG  b' hb' => W_impl_always fu G'  b' hb') (some (Addr.mk a3 0 none)) 1 [(p_a1, c_a1, T_a1)] [a1] (trows3_1 t_a1) (vw3_1 (a2.get (k := 0) rfl) t_a1 rfl) (TVw3.cons (a2.view v_a1) t_a1 rfl (a2.tview w_a1) TVw3.nil) a9 b0)) (AO.a rfl rfl (AO.nil (AX.sr (AO.m rfl rfl (AO.p rfl (p_neq rfl rfl) (AO.nil (AX.cond rfl (fun a4 => ?_) (fun a4 => ?_))))))))
 ·have b1 := bif_t a4 a6
  refine AX.sr (AO.m rfl rfl (AO.a rfl rfl (AO.a rfl rfl (AO.nil (AX.ret ?_)))))
  obtain ⟨rfl, rfl⟩ := Prod.mk.inj (some_inj b1)
  exact ⟨.inr rfl, _, res2 rfl (rv_tmp rfl) (rv_tmp rfl), rfl, (flat_t2 (flatB_ok rfl) (flatB_ok rfl)), a2.hold⟩
 ·have b2 := bif_f a4 a6
  refine AX.skip (AX.sr (AO.m rfl rfl (AO.m rfl rfl ?_)))
  obtain ⟨b3, b4, b5⟩ := bnd_some b2
  refine AO.c rfl (o_call (vs := [.int .i64 a0, .slice p_a1 a1.length c_a1]) rfl Tryz.call29 (W_impl_isStrong fu a5 a0 p_a1 c_a1 T_a1 a1 t_a1 (a2.view v_a1) (a2.tview w_a1) b3 b4)) (AO.a rfl rfl (AO.a rfl rfl (AO.nil (AX.ret ?_))))
  obtain ⟨rfl, rfl⟩ := Prod.mk.inj (some_inj b5)
  exact ⟨.inr rfl, _, res2 rfl (rv_tmp rfl) (rv_tmp rfl), rfl, (flat_t2 (flatB_ok rfl) (flatB_ok rfl)), a2.hold⟩
set_option maxHeartbeats 4000000 in
theorem W_spec_StrongAdder (fu : Nat) (H : AHeap) (a0 : Int) (p_a1 : Option Addr) (c_a1 : Nat) (T_a1 : Tb) (a1 : List (List Int)) (t_a1 : trows T_a1 = a1) (v_a1 : Vw H p_a1 a1.length c_a1 (tcells T_a1)) (w_a1 : TVw H T_a1) (r0 : List Int) (r1 : Int) (hd : D_spec_StrongAdder fu a0 a1 = some (r0, r1)) : ∃ v G', ACall Tryz.prog 7 [.int .i64 a0, .slice p_a1 a1.length c_a1] H v G' ∧ ∃ (p_r0 : Option Addr) (c_r0 : Nat), (v = .tuple #[.slice p_r0 r0.length c_r0, .int .i64 r1]) ∧ St [] H G' [oseg p_r0 (ints r0)] ∧ Sb p_r0 r0.length c_r0 1 := by
 refine ACall.bodyX (args := [.int .i64 a0, .slice p_a1 a1.length c_a1]) (N := 40) [(0, .int .i64 a0), (1, .slice p_a1 a1.length c_a1)] (fun v G' => ∃ (p_r0 : Option Addr) (c_r0 : Nat), (v = .tuple #[.slice p_r0 r0.length c_r0, .int .i64 r1]) ∧ St [] H G' [oseg p_r0 (ints r0)] ∧ Sb p_r0 r0.length c_r0 1) Tryz.func7 rfl rfl rfl rfl ?_
 unfold D_spec_StrongAdder at hd
 have S0 : St [] H H [] := St.nil H
 refine AX.sr (AO.a rfl rfl (AO.a rfl rfl (AO.nil (AX.seq (AX.sr (AO.m rfl rfl (AO.m rfl rfl ?_)))))))
 obtain ⟨c6, c7, b8⟩ := bnd_some hd
 refine AO.c rfl (o_call (vs := [.int .i64 a0, .slice p_a1 a1.length c_a1]) rfl Tryz.call31 (W_spec_l03Code fu H a0 p_a1 c_a1 T_a1 a1 t_a1 (S0.view v_a1) (S0.tview w_a1) c6 c7)) (AO.a rfl rfl (AO.nil (AX.sr (AO.m rfl rfl (AO.p rfl (p_neq rfl rfl) (AO.nil (AX.cond rfl (fun b1 => ?_) (fun b1 => ?_))))))))
 ·have c8 := bif_t b1 b8
  refine AX.sr (AO.m rfl rfl (AO.a rfl rfl (AO.a rfl rfl (AO.nil (AX.ret ?_)))))
  obtain ⟨rfl, rfl⟩ := Prod.mk.inj (some_inj c8)
  have c9 : St [] H H (oseg none (ints []) :: _) := S0.nilseg 0
  exact ⟨.inr rfl, _, res2 rfl (rv_tmp rfl) (rv_tmp rfl), none, 0, rfl, c9, Sb.nil⟩
 ·have d0 := bif_f b1 b8
  refine AX.skip (AX.seq (AX.sr (AO.m rfl rfl (AO.m rfl rfl ?_))))
  obtain ⟨d1, d2, b9⟩ := bnd_some d0
  refine AO.c rfl (o_call (vs := [.int .i64 a0, .slice p_a1 a1.length c_a1]) rfl Tryz.call32 (W_spec_l03Strong fu H a0 p_a1 c_a1 T_a1 a1 t_a1 (S0.view v_a1) (S0.tview w_a1) d1 d2)) (AO.p rfl (p_not rfl) (AO.nil (AX.cond rfl (fun b2 => ?_) (fun b2 => ?_))))
  ·have d3 := bif_t b2 b9
   refine AX.sr (AO.a rfl rfl (AO.a rfl rfl (AO.nil (AX.ret ?_))))
   obtain ⟨rfl, rfl⟩ := Prod.mk.inj (some_inj d3)
   have d4 : St [] H H (oseg none (ints []) :: _) := S0.nilseg 0
   exact ⟨.inr rfl, _, res2 rfl (rv_tmp rfl) (rv_tmp rfl), none, 0, rfl, d4, Sb.nil⟩
  ·have d5 := bif_f b2 b9
   refine AX.skip (AX.sr (AO.m rfl rfl (AO.m rfl rfl ?_)))
   obtain ⟨a4, d6, d7⟩ := bnd_some d5
   obtain ⟨_, h7, d8, c0, d9, rfl, e0, c1⟩ := W_spec_l03Sums fu H a0 p_a1 c_a1 T_a1 a1 t_a1 (S0.view v_a1) (S0.tview w_a1) a4 d6
   have e1 := S0.call e0
   refine AO.c rfl (o_call (vs := [.int .i64 a0, .slice p_a1 a1.length c_a1]) rfl Tryz.call33 d8) ?_
   obtain ⟨h8, c2, e2, e3, e4⟩ := e1.new (AObj.row false (ints []))
   refine AO.c rfl (s_build0 (i := c2) underlying27 sizeOf2 e2 e3) (AO.a rfl rfl (AO.a rfl rfl (AO.nil (AX.seq (AX.sr (AO.a rfl rfl (AO.nil ?_)))))))
   obtain ⟨e5, e6, e7⟩ := bnd_some d7
   refine AX.cutS (fun t' H' => ∃ (a5 : List Int) (a6 : Option Addr) (a8 : Nat), a5 = e5 ∧ St [] H H' [oseg a6 (ints a5)] ∧ Sb a6 (a5.length) a8 1 ∧ Am.Sub [(8, .slice a6 a5.length a8)] t') ?_ ?_
   ·refine AX.block (AX.loopF (fun s' t' H' => ∃ (a3 : List Int) (a2 : Int) (a7 : Option Addr) (a9 : Nat), (a3, a2) = s' ∧ St [] H H' [oseg c0 (ints a4), oseg a7 (ints a3)] ∧ Sb a7 (a3.length) a9 1 ∧ Am.Sub [(0, .int .i64 a0), (7, .slice c0 a4.length d9), (8, .slice a7 a3.length a9), (9, .int .i64 a2)] t') e6 ?_ ?_)
    ·skip
     have e8 := e4.front 0 rfl
     have e9 := e8.front 1 rfl
     exact ⟨[], 0, (some (Addr.mk c2 0 none)), 0, rfl, e9, (Sb.lit (n := 0) (by decide)), Sub.k4 rfl rfl rfl rfl (Sub.nil _)⟩
    ·rintro h9 _ t' i0 ⟨a3, a2, a7, a9, rfl, b3, b4, f0⟩ i1 b5 c3
     refine AX.sub f0 ?_
     unfold D_spec_StrongAdder_s0 at b5
     refine AX.seq (AX.sr (AO.m rfl rfl (AO.m rfl rfl (AO.p rfl (p_len_slice rfl underlying27) (AO.p rfl (p_lss rfl rfl) (AO.nil (AX.cond rfl (fun b6 => ?_) (fun b6 => ?_))))))))
     ·have f1 := bif_t b6 b5
      refine AX.skip (AX.seq (AX.block (AX.region (AO.m rfl rfl (AO.m rfl rfl (AO.m rfl rfl (AO.m rfl rfl ?_)))))))
      obtain ⟨b0, f2⟩ := chk_some f1
      refine AO.p rfl (s_indexV (q := a2.toNat) underlying27 sizeOf2 rfl (c1.at (inR_pos b0)) rfl b0 (z1 _)) (AO.c rfl (s_load isAgg2 rfl (row_cell (b3.oat (k := 0) rfl (c1.at (inR_pos b0))) (ints_get (lt_len rfl (inR_lt b0))))) ?_)
      obtain ⟨f3, f4⟩ := chk_some f2
      refine AO.p rfl (p_subE rfl rfl f3) ?_
      obtain ⟨i2, f5, f6, f7, b7⟩ := b3.new (AObj.row false (ints [a0 - (rd a4 a2.toNat)]))
      refine AO.c rfl (s_buildInts (i := f5) (vs := [(0, .int .i64 (a0 - (rd a4 a2.toNat)))]) (xs := [a0 - (rd a4 a2.toNat)]) underlying27 sizeOf2 zeroValue2 rfl rfl (by decide) rfl rfl f6 f7) ?_
      obtain ⟨f8, f9⟩ := chk_some f4
      obtain ⟨c4, c5, i3, g0, g1, g2⟩ := b7.app (k := 2) rfl b4 (ints [a0 - (rd a4 a2.toNat)]) 1 (ints_len1 rfl)
      have g3 := g1.cellsEq (k := 2) (us' := ints (a3 ++ [a0 - (rd a4 a2.toNat)])) (ints_app _ _) rfl
      have g4 : Sb c4 ((a3 ++ [a0 - (rd a4 a2.toNat)]).length) c5 1 := (show a3.length + 1 = (a3 ++ [a0 - (rd a4 a2.toNat)]).length from len_app (a := a3) (b := [a0 - (rd a4 a2.toNat)]) rfl rfl) ▸ g2
      have g5 := g3.drop 0 rfl
      refine AO.c rfl (s_app (by_ := 8) (us := ints a3) (vs := ints [a0 - (rd a4 a2.toNat)]) underlying27 underlying27 typeInfo2 sizeOf2 zeroValue2 rfl rfl rfl rfl rfl rfl rfl (b7.buf (k := 2) rfl b4 (ints_len1 rfl)) (b7.oview (k := 0) rfl (Sb.lit (n := 1) (by decide)) (ints_len1 rfl)) (ints_len1 rfl) ints_one f8 g0 (show a3.length + 1 = (a3 ++ [a0 - (rd a4 a2.toNat)]).length from len_app (a := a3) (b := [a0 - (rd a4 a2.toNat)]) rfl rfl)) (AO.a rfl rfl (AO.nil (AX.region (AO.m rfl rfl ?_))))
      obtain ⟨g6, g7⟩ := chk_some f9
      refine AO.p rfl (p_addE rfl rfl g6) (AO.a rfl rfl (AO.nil ?_))
      obtain rfl := some_inj g7
      have g8 := g5.front 1 rfl
      have g9 := g8.front 1 rfl
      exact ⟨((a3 ++ [a0 - (rd a4 a2.toNat)]), a2 + 1), c3, (a3 ++ [a0 - (rd a4 a2.toNat)]), (a2 + 1), c4, c5, rfl, g9, g4, Sub.k4 rfl rfl rfl rfl (Sub.nil _)⟩
     ·have h0 := bif_f b6 b5
      refine AX.exit ?_
      obtain rfl := some_inj h0
      have h1 := b3.front 1 rfl
      have h2 := h1.keep 1
      exact ⟨a3, a7, a9, c3, h2, b4, Sub.k1 rfl (Sub.nil _)⟩
   ·rintro t' i4 ⟨a5, a6, a8, rfl, h3, h4, h5⟩
    refine ⟨_, h5, ?_⟩
    refine AX.sr (AO.m rfl rfl (AO.a rfl rfl (AO.a rfl rfl (AO.nil (AX.ret ?_)))))
    obtain ⟨rfl, rfl⟩ := Prod.mk.inj (some_inj e7)
    have h6 := h3.front 0 rfl
    exact ⟨.inr rfl, _, res2 rfl (rv_tmp rfl) (rv_tmp rfl), a6, a8, rfl, h6, h4⟩
set_option maxHeartbeats 4000000 in
theorem W_impl_StrongAdder (fu : Nat) (H : AHeap) (a0 : Int) (p_a1 : Option Addr) (c_a1 : Nat) (T_a1 : Tb) (a1 : List (List Int)) (t_a1 : trows T_a1 = a1) (v_a1 : Vw H p_a1 a1.length c_a1 (tcells T_a1)) (w_a1 : TVw H T_a1) (r0 : List Int) (r1 : Int) (hd : D_impl_StrongAdder fu a0 a1 = some (r0, r1)) : ∃ v G', ACall Tryz.prog 6 [.int .i64 a0, .slice p_a1 a1.length c_a1] H v G' ∧ ∃ (p_r0 : Option Addr) (c_r0 : Nat), (v = .tuple #[.slice p_r0 r0.length c_r0, .int .i64 r1]) ∧ St [] H G' [oseg p_r0 (ints r0)] ∧ Sb p_r0 r0.length c_r0 1 := by
 refine ACall.bodyX (args := [.int .i64 a0, .slice p_a1 a1.length c_a1]) (N := 42) [(0, .int .i64 a0), (1, .slice p_a1 a1.length c_a1)] (fun v G' => ∃ (p_r0 : Option Addr) (c_r0 : Nat), (v = .tuple #[.slice p_r0 r0.length c_r0, .int .i64 r1]) ∧ St [] H G' [oseg p_r0 (ints r0)] ∧ Sb p_r0 r0.length c_r0 1) Tryz.func6 rfl rfl rfl rfl ?_
 unfold D_impl_StrongAdder at hd
 have S0 : St [] H H [] := St.nil H
 refine AX.sr (AO.a rfl rfl (AO.a rfl rfl (AO.nil (AX.sr (AO.m rfl rfl (AO.m rfl rfl ?_))))))
 obtain ⟨c5, b2, d8, d9, a5⟩ := S0.new (AObj.row false ([.slice p_a1 a1.length c_a1]))
 refine AO.c rfl (s_buildSl (i := b2) (vs := [(0, .slice p_a1 a1.length c_a1)]) (cs := [.slice p_a1 a1.length c_a1]) underlying66 sizeOf24 zeroValue24 rfl rfl (by decide) rfl rfl d8 d9) ?_
 obtain ⟨b3, e0, e1⟩ := bnd_some hd
 refine AO.c rfl (o_call (vs := [.int .i64 a0, .func (.func 28) #[] #[], .slice (some (Addr.mk b2 0 none)) 1 1]) rfl Tryz.call27 (W_impl_starterCode fu c5 a0 28 #[] #[] (fun _ => D_impl_always fu ) Tryz.call28 (fun G' hG  b' hb' => W_impl_always fu G'  b' hb') (some (Addr.mk b2 0 none)) 1 [(p_a1, c_a1, T_a1)] [a1] (trows3_1 t_a1) (vw3_1 (a5.get (k := 0) rfl) t_a1 rfl) (TVw3.cons (a5.view v_a1) t_a1 rfl (a5.tview w_a1) TVw3.nil) b3 e0)) (AO.a rfl rfl (AO.nil (AX.seq ?_)))
 obtain ⟨e2, c6, e3⟩ := bnd_some e1
 refine AX.cut (fun t' H' => ∃ (b4 : Bool), b4 = e2 ∧ St [] H H' [] ∧ Am.Sub [(0, .int .i64 a0), (1, .slice p_a1 a1.length c_a1), (6, .int .i64 b3), (21, .bool b4)] t') ?_ ?_
 ·skip
  refine AX.region (AO.m rfl rfl (AO.p rfl (p_eql rfl rfl) (AO.m rfl rfl (AO.cases (d := 16) rfl (fun b5 => ?_) (fun b5 => ?_)))))
  ·have e4 := bif_t b5 c6
   refine AO.gp rfl rfl rfl (p_move rfl) (AO.gp rfl rfl rfl (p_move rfl) ?_)
   obtain ⟨c7, e5, e6⟩ := bnd_some e4
   refine AO.gc rfl rfl rfl (o_call (vs := [.int .i64 a0, .slice p_a1 a1.length c_a1]) rfl Tryz.call29 (W_impl_isStrong fu c5 a0 p_a1 c_a1 T_a1 a1 t_a1 (a5.view v_a1) (a5.tview w_a1) c7 e5)) (AO.gp rfl rfl rfl (p_not rfl) (AO.p rfl (p_pickT rfl rfl) (AO.nil ?_)))
   have e7 := a5.keep 0
   exact ⟨(!c7), (some_inj e6), e7, Sub.k4 rfl rfl rfl rfl (Sub.nil _)⟩
  ·have e8 := bif_f b5 c6
   refine AO.gn rfl rfl rfl (AO.gn rfl rfl rfl (AO.gn rfl rfl rfl (AO.gn rfl rfl rfl (AO.p rfl (p_pickF rfl rfl) (AO.nil ?_)))))
   have e9 := a5.keep 0
   exact ⟨false, (some_inj e8), e9, Sub.k4 rfl rfl rfl rfl (Sub.nil _)⟩
 ·rintro t' k0 ⟨b4, rfl, c8, f0⟩
  refine AX.sub f0 ?_
  obtain ⟨f1, c9, d0⟩ := bnd_some e3
  refine AX.cutS (fun t' H' => ∃ (b6 : Int), b6 = f1 ∧ St [] H H' [] ∧ Am.Sub [(0, .int .i64 a0), (1, .slice p_a1 a1.length c_a1), (6, .int .i64 b6)] t') ?_ ?_
  ·skip
   refine AX.cond rfl (fun b7 => ?_) (fun b7 => ?_)
   ·have f2 := bif_t b7 c9
    refine AX.region (AO.a rfl rfl (AO.nil ?_))
    exact ⟨5, (some_inj f2), c8, Sub.k2 rfl rfl (Sub.k1 rfl (Sub.nil _))⟩
   ·have f3 := bif_f b7 c9
    refine AX.skip ?_
    exact ⟨b3, (some_inj f3), c8, Sub.k2 rfl rfl (Sub.k1 rfl (Sub.nil _))⟩
  ·rintro t' f4 ⟨b6, rfl, d1, f5⟩
   refine ⟨_, f5, ?_⟩
   refine AX.seq (AX.sr (AO.m rfl rfl (AO.p rfl (p_neq rfl rfl) (AO.nil (AX.cond rfl (fun b8 => ?_) (fun b8 => ?_))))))
   ·have f6 := bif_t b8 d0
    refine AX.sr (AO.m rfl rfl (AO.a rfl rfl (AO.a rfl rfl (AO.nil (AX.ret ?_)))))
    obtain ⟨rfl, rfl⟩ := Prod.mk.inj (some_inj f6)
    have f7 : St [] H f4 (oseg none (ints []) :: _) := d1.nilseg 0
    exact ⟨.inr rfl, _, res2 rfl (rv_tmp rfl) (rv_tmp rfl), none, 0, rfl, f7, Sb.nil⟩
   ·have f8 := bif_f b8 d0
    refine AX.skip (AX.sr ?_)
    obtain ⟨f9, d2, g0, g1, b9⟩ := d1.new (AObj.row false (ints []))
    refine AO.c rfl (s_build0 (i := d2) underlying27 sizeOf2 g0 g1) (AO.a rfl rfl (AO.nil (AX.seq (AX.sr (AO.m rfl rfl (AO.m rfl rfl ?_))))))
    obtain ⟨a3, g2, g3⟩ := bnd_some f8
    obtain ⟨_, k3, g4, d3, g5, rfl, g6, d4⟩ := W_impl_sums fu f9 a0 p_a1 c_a1 T_a1 a1 t_a1 (b9.view v_a1) (b9.tview w_a1) a3 g2
    have g7 := b9.call g6
    refine AO.c rfl (o_call (vs := [.int .i64 a0, .slice p_a1 a1.length c_a1]) rfl Tryz.call30 g4) (AO.p rfl (p_len_slice rfl underlying27) (AO.m rfl rfl (AO.nil ?_)))
    obtain ⟨g8, g9, h0⟩ := bnd_some g3
    refine AX.cutS (fun t' H' => ∃ (a6 : List Int) (a7 : Option Addr) (a9 : Nat), a6 = g8 ∧ St [] H H' [oseg a7 (ints a6)] ∧ Sb a7 (a6.length) a9 1 ∧ Am.Sub [(7, .slice a7 a6.length a9)] t') ?_ ?_
    ·refine AX.block (AX.loopF (fun s' t' H' => ∃ (a4 : List Int) (a2 : Int) (a8 : Option Addr) (b0 : Nat), (a4, a2) = s' ∧ St [] H H' [oseg a8 (ints a4), oseg d3 (ints a3)] ∧ Sb a8 (a4.length) b0 1 ∧ Am.Sub [(0, .int .i64 a0), (7, .slice a8 a4.length b0), (28, .slice d3 a3.length g5), (29, .int .i64 ((a3.length : Nat) : Int)), (30, .int .i64 a2)] t') g9 ?_ ?_)
     ·skip
      have h1 := g7.front 0 rfl
      have h2 := h1.front 1 rfl
      exact ⟨[], 0, (some (Addr.mk d2 0 none)), 0, rfl, h2, (Sb.lit (n := 0) (by decide)), Sub.k4 rfl rfl rfl rfl (Sub.k1 rfl (Sub.nil _))⟩
     ·rintro k5 _ t' k6 ⟨a4, a2, a8, b0, rfl, c0, c1, h3⟩ k7 c2 d5
      refine AX.sub h3 ?_
      unfold D_impl_StrongAdder_s0 at c2
      refine AX.sr (AO.p rfl (p_lss rfl rfl) (AO.nil (AX.seq (AX.cond rfl (fun c3 => ?_) (fun c3 => ?_)))))
      ·have h4 := bif_t c3 c2
       refine AX.skip (AX.seq (AX.block (AX.sr ?_)))
       obtain ⟨b1, h5⟩ := chk_some h4
       refine AO.p rfl (s_indexV (q := a2.toNat) underlying27 sizeOf2 rfl (d4.at (inR_pos b1)) rfl b1 (z1 _)) (AO.c rfl (s_load isAgg2 rfl (row_cell (c0.oat (k := 1) rfl (d4.at (inR_pos b1))) (ints_get (lt_len rfl (inR_lt b1))))) (AO.a rfl rfl (AO.nil (AX.region (AO.m rfl rfl (AO.m rfl rfl (AO.m rfl rfl ?_)))))))
       obtain ⟨h6, h7⟩ := chk_some h5
       refine AO.p rfl (p_subE rfl rfl h6) ?_
       obtain ⟨k8, h8, h9, i0, c4⟩ := c0.new (AObj.row false (ints [a0 - (rd a3 a2.toNat)]))
       refine AO.c rfl (s_buildInts (i := h8) (vs := [(0, .int .i64 (a0 - (rd a3 a2.toNat)))]) (xs := [a0 - (rd a3 a2.toNat)]) underlying27 sizeOf2 zeroValue2 rfl rfl (by decide) rfl rfl h9 i0) ?_
       obtain ⟨i1, i2⟩ := chk_some h7
       obtain ⟨d6, d7, k9, i3, i4, i5⟩ := c4.app (k := 1) rfl c1 (ints [a0 - (rd a3 a2.toNat)]) 1 (ints_len1 rfl)
       have i6 := i4.cellsEq (k := 1) (us' := ints (a4 ++ [a0 - (rd a3 a2.toNat)])) (ints_app _ _) rfl
       have i7 : Sb d6 ((a4 ++ [a0 - (rd a3 a2.toNat)]).length) d7 1 := (show a4.length + 1 = (a4 ++ [a0 - (rd a3 a2.toNat)]).length from len_app (a := a4) (b := [a0 - (rd a3 a2.toNat)]) rfl rfl) ▸ i5
       have i8 := i6.drop 0 rfl
       refine AO.c rfl (s_app (by_ := 8) (us := ints a4) (vs := ints [a0 - (rd a3 a2.toNat)]) underlying27 underlying27 typeInfo2 sizeOf2 zeroValue2 rfl rfl rfl rfl rfl rfl rfl (c4.buf (k := 1) rfl c1 (ints_len1 rfl)) (c4.oview (k := 0) rfl (Sb.lit (n := 1) (by decide)) (ints_len1 rfl)) (ints_len1 rfl) ints_one i1 i3 (show a4.length + 1 = (a4 ++ [a0 - (rd a3 a2.toNat)]).length from len_app (a := a4) (b := [a0 - (rd a3 a2.toNat)]) rfl rfl)) (AO.a rfl rfl (AO.nil (AX.region ?_)))
       obtain ⟨i9, j0⟩ := chk_some i2
       refine AO.p rfl (p_addE rfl rfl i9) (AO.m rfl rfl (AO.nil ?_))
       obtain rfl := some_inj j0
       have j1 := i8.front 1 rfl
       have j2 := j1.front 1 rfl
       exact ⟨((a4 ++ [a0 - (rd a3 a2.toNat)]), a2 + 1), d5, (a4 ++ [a0 - (rd a3 a2.toNat)]), (a2 + 1), d6, d7, rfl, j2, i7, Sub.k4 rfl rfl rfl rfl (Sub.k1 rfl (Sub.nil _))⟩
      ·have j3 := bif_f c3 c2
       refine AX.exit ?_
       obtain rfl := some_inj j3
       have j4 := c0.front 0 rfl
       have j5 := j4.keep 1
       exact ⟨a4, a8, b0, d5, j5, c1, Sub.k1 rfl (Sub.nil _)⟩
    ·rintro t' l0 ⟨a6, a7, a9, rfl, j6, j7, j8⟩
     refine ⟨_, j8, ?_⟩
     refine AX.sr (AO.m rfl rfl (AO.a rfl rfl (AO.a rfl rfl (AO.nil (AX.ret ?_)))))
     obtain ⟨rfl, rfl⟩ := Prod.mk.inj (some_inj h0)
     have j9 := j6.front 0 rfl
     exact ⟨.inr rfl, _, res2 rfl (rv_tmp rfl) (rv_tmp rfl), a7, a9, rfl, j9, j7⟩
set_option maxHeartbeats 4000000 in
theorem W_spec_l03Adder (fu : Nat) (H : AHeap) (a0 : Int) (p_a1 : Option Addr) (c_a1 : Nat) (T_a1 : Tb) (a1 : List (List Int)) (t_a1 : trows T_a1 = a1) (v_a1 : Vw H p_a1 a1.length c_a1 (tcells T_a1)) (w_a1 : TVw H T_a1) (p_a2 : Option Addr) (c_a2 : Nat) (a2 : List Int) (v_a2 : Vw H p_a2 a2.length c_a2 (ints a2)) (r0 : Bool) (hd : D_spec_l03Adder fu a0 a1 a2 = some r0) : ACall Tryz.prog 57 [.int .i64 a0, .slice p_a1 a1.length c_a1, .slice p_a2 a2.length c_a2] H (.bool r0) H := by
 refine ACall.bodyP (N := 81) [(0, .int .i64 a0), (1, .slice p_a1 a1.length c_a1), (2, .slice p_a2 a2.length c_a2)] Tryz.func57 rfl rfl rfl rfl ?_
 unfold D_spec_l03Adder at hd
 have S0 : St [] H H [] := St.nil H
 refine AX.sr (AO.a rfl rfl (AO.nil (AX.seq (DR.startS [false, false, false, false, false, false] mix (by kernel_rfl) (fun hst => ?_)))))
 refine DR.p rfl rfl (p_move rfl) ?_
 obtain ⟨e6, e7⟩ := chk_some hd
 obtain ⟨l7, a7, e8, e9, f0⟩ := S0.new (AObj.row false (bls (List.replicate a0.toNat false)))
 refine DR.a rfl rfl e8 e9 (a_make1 (v := .bool false) (by_ := 1) underlying76 typeInfo4 sizeOf4 zeroValue4 rfl rfl rfl rfl rfl rfl e6 bls_rep) (DR.p rfl rfl (p_move rfl) ?_)
 obtain ⟨f1, f2⟩ := chk_some e7
 obtain ⟨l8, a8, f3, f4, c8⟩ := f0.new (AObj.row false (bls (List.replicate a0.toNat false)))
 refine DR.a rfl rfl f3 f4 (a_make1 (v := .bool false) (by_ := 1) underlying76 typeInfo4 sizeOf4 zeroValue4 rfl rfl rfl rfl rfl rfl f1 bls_rep) (DR.p rfl rfl (p_assign rfl) (DR.p rfl rfl (p_assign rfl) (DR.nil 6 [] hst (by kernel_rfl) trivial (AX.sr (AO.m rfl rfl ?_)))))
 obtain ⟨c9, f5⟩ := chk_some f2
 refine AO.p rfl (s_indexV (q := 0) underlying76 sizeOf4 rfl rfl rfl c9 rfl) ?_
 obtain ⟨l9, f6, f7⟩ := c8.set (k := 1) (i := a7) rfl (AObj.row false (bls ((List.replicate a0.toNat false).set 0 true)))
 refine AO.s (s_store sizeOf4 rfl rfl rfl (c8.get (k := 1) rfl) (lt_len ((bls_length _).trans len_rep) (inR_lt c9)) ((congrArg (fun l => List.set _ _ (AObj.row false l)) (bls_set _ _ _)).trans f6)) (AO.nil (AX.seq (AX.sr (AO.a rfl rfl (AO.nil ?_)))))
 obtain ⟨d0, f8, d1⟩ := bnd_some f5
 refine AX.cutS (fun t' H' => .inl () = d0 ∧ St [] H H' [] ∧ Am.Sub [] t') ?_ ?_
 ·refine AX.block (AX.loopF (fun s' t' H' => ∃ (a5 : List Bool) (a6 : List Bool) (a3 : Int), (a5, a6, a3) = s' ∧ St [] H H' [[(a7, AObj.row false (bls a5))], [(a8, AObj.row false (bls a6))]] ∧ a5.length = a0.toNat ∧ a6.length = a0.toNat ∧ Am.Sub [(0, .int .i64 a0), (1, .slice p_a1 a1.length c_a1), (2, .slice p_a2 a2.length c_a2), (7, .slice (some (Addr.mk a7 0 none)) a0.toNat a0.toNat), (8, .slice (some (Addr.mk a8 0 none)) a0.toNat a0.toNat), (9, .int .i64 a3)] t') f8 ?_ ?_)
  ·skip
   have f9 := f7.front 0 rfl
   have g0 := f9.front 1 rfl
   exact ⟨((List.replicate a0.toNat false).set 0 true), (List.replicate a0.toNat false), 0, rfl, g0, (len_set len_rep), len_rep, Sub.k4 rfl rfl rfl rfl (Sub.k2 rfl rfl (Sub.nil _))⟩
  ·rintro m0 _ t' m1 ⟨a5, a6, a3, rfl, a4, a9, b1, g1⟩ m2 b2 b3
   refine AX.sub g1 ?_
   unfold D_spec_l03Adder_s0 at b2
   refine AX.seq (AX.sr (AO.m rfl rfl (AO.m rfl rfl (AO.p rfl (p_len_slice rfl underlying27) (AO.p rfl (p_lss rfl rfl) (AO.nil (AX.cond rfl (fun b4 => ?_) (fun b4 => ?_))))))))
   ·have g2 := bif_t b4 b2
    refine AX.skip (AX.seq (AX.block (AX.seq (DR.startS [false, false, false, false, false, false, false, false, false, false, false, false, false, false, false, false, false, false, false, false, false, false, false, false, false, false, false, false] mix (by kernel_rfl) (fun hst => ?_)))))
    refine DR.p rfl rfl (p_move rfl) (DR.p rfl rfl (p_move rfl) ?_)
    obtain ⟨d2, g3⟩ := chk_some g2
    obtain ⟨g4, m3, b5, d3⟩ := tget t_a1 (lt_len rfl (inR_lt d2))
    refine DR.p rfl rfl (s_indexV (q := off p_a1 + a3.toNat) underlying24 sizeOf27 rfl ((a4.view v_a1).p d3) rfl d2 (o1 _ _)) (DR.r rfl rfl (r_load rfl isAgg27) (one_read ((a4.view v_a1).get _ _ d3) (TVw.at (a4.tview w_a1) b5).inn.bel) ?_)
    obtain ⟨b6, g5⟩ := chk_some g3
    refine DR.p rfl rfl (s_indexV (q := off g4 + 0) underlying27 sizeOf2 rfl ((TVw.at (a4.tview w_a1) b5).p (ints_get (lt_len rfl (inR_lt b6)))) rfl b6 (o1 _ _)) (DR.r rfl rfl (r_load rfl isAgg2) (one_read ((TVw.at (a4.tview w_a1) b5).get _ _ (ints_get (lt_len rfl (inR_lt b6)))) (.of_flat0 rfl)) (DR.p rfl rfl (p_move rfl) (DR.p rfl rfl (p_move rfl) ?_)))
    obtain ⟨b7, g6⟩ := chk_some g5
    refine DR.p rfl rfl (s_indexV (q := off p_a2 + a3.toNat) underlying27 sizeOf2 rfl ((a4.view v_a2).p (ints_get (lt_len rfl (inR_lt b7)))) rfl b7 (o1 _ _)) (DR.r rfl rfl (r_load rfl isAgg2) (one_read ((a4.view v_a2).get _ _ (ints_get (lt_len rfl (inR_lt b7)))) (.of_flat0 rfl)) ?_)
    obtain ⟨g7, g8⟩ := chk_some g6
    refine DR.p rfl rfl (p_addE rfl rfl g7) (DR.p rfl rfl (p_move rfl) ?_)
    obtain ⟨g9, h0⟩ := chk_some g8
    refine DR.p rfl rfl (p_remE rfl rfl g9) (DR.p rfl rfl (p_move rfl) (DR.p rfl rfl (p_move rfl) ?_))
    obtain ⟨d4, h1⟩ := chk_some h0
    obtain ⟨h2, m4, b8, d5⟩ := tget t_a1 (lt_len rfl (inR_lt d4))
    refine DR.p rfl rfl (s_indexV (q := off p_a1 + a3.toNat) underlying24 sizeOf27 rfl ((a4.view v_a1).p d5) rfl d4 (o1 _ _)) (DR.r rfl rfl (r_load rfl isAgg27) (one_read ((a4.view v_a1).get _ _ d5) (TVw.at (a4.tview w_a1) b8).inn.bel) ?_)
    obtain ⟨b9, h3⟩ := chk_some h1
    refine DR.p rfl rfl (s_indexV (q := off h2 + 1) underlying27 sizeOf2 rfl ((TVw.at (a4.tview w_a1) b8).p (ints_get (lt_len rfl (inR_lt b9)))) rfl b9 (o1 _ _)) (DR.r rfl rfl (r_load rfl isAgg2) (one_read ((TVw.at (a4.tview w_a1) b8).get _ _ (ints_get (lt_len rfl (inR_lt b9)))) (.of_flat0 rfl)) (DR.p rfl rfl (p_move rfl) (DR.p rfl rfl (p_move rfl) ?_)))
    obtain ⟨c0, h4⟩ := chk_some h3
    refine DR.p rfl rfl (s_indexV (q := off p_a2 + a3.toNat) underlying27 sizeOf2 rfl ((a4.view v_a2).p (ints_get (lt_len rfl (inR_lt c0)))) rfl c0 (o1 _ _)) (DR.r rfl rfl (r_load rfl isAgg2) (one_read ((a4.view v_a2).get _ _ (ints_get (lt_len rfl (inR_lt c0)))) (.of_flat0 rfl)) ?_)
    obtain ⟨h5, h6⟩ := chk_some h4
    refine DR.p rfl rfl (p_addE rfl rfl h5) (DR.p rfl rfl (p_move rfl) ?_)
    obtain ⟨h7, h8⟩ := chk_some h6
    refine DR.p rfl rfl (p_remE rfl rfl h7) (DR.p rfl rfl (p_assign rfl) (DR.p rfl rfl (p_assign rfl) (DR.nil 28 [] hst (by kernel_rfl) trivial (AX.seq ?_))))
    obtain ⟨h9, i0, d6⟩ := bnd_some h8
    refine AX.cut (fun t' H' => ∃ (c1 : Bool), c1 = h9 ∧ St [] H H' [[(a7, AObj.row false (bls a5))], [(a8, AObj.row false (bls a6))]] ∧ Am.Sub [(0, .int .i64 a0), (1, .slice p_a1 a1.length c_a1), (2, .slice p_a2 a2.length c_a2), (7, .slice (some (Addr.mk a7 0 none)) a0.toNat a0.toNat), (8, .slice (some (Addr.mk a8 0 none)) a0.toNat a0.toNat), (9, .int .i64 a3), (10, .int .i64 ((rd (rw_ a1 a3.toNat) 0 + (rd a2 a3.toNat)).tmod a0)), (11, .int .i64 ((rd (rw_ a1 a3.toNat) 1 + (rd a2 a3.toNat)).tmod a0)), (68, .bool c1)] t') ?_ ?_
    ·skip
     refine AX.region (AO.m rfl rfl (AO.m rfl rfl ?_))
     obtain ⟨d7, d8⟩ := chk_some i0
     refine AO.p rfl (s_indexV (q := ((rd (rw_ a1 a3.toNat) 0 + (rd a2 a3.toNat)).tmod a0).toNat) underlying76 sizeOf4 rfl rfl rfl d7 (z1 _)) (AO.c rfl (s_load isAgg4 rfl (row_cell (a4.get (k := 0) rfl) (bls_get (lt_len a9 (inR_lt d7))))) (AO.m rfl rfl (AO.cases (d := 54) rfl (fun c2 => ?_) (fun c2 => ?_))))
     ·have i1 := bif_t c2 d8
      refine AO.gn rfl rfl rfl (AO.gn rfl rfl rfl (AO.gn rfl rfl rfl (AO.gn rfl rfl rfl (AO.p rfl (p_pickT rfl rfl) (AO.m rfl rfl (AO.gn rfl rfl rfl (AO.gn rfl rfl rfl (AO.gn rfl rfl rfl (AO.gn rfl rfl rfl (AO.gn rfl rfl rfl (AO.gn rfl rfl rfl (AO.gn rfl rfl rfl (AO.p rfl (p_pickT rfl rfl) ?_)))))))))))))
      refine AO.nil ?_
      have i2 := a4.front 1 rfl
      have i3 := i2.front 1 rfl
      exact ⟨true, (some_inj i1), i3, Sub.k8 rfl rfl rfl rfl rfl rfl rfl rfl (Sub.k1 rfl (Sub.nil _))⟩
     ·have i4 := bif_f c2 d8
      refine AO.gp rfl rfl rfl (p_move rfl) (AO.gp rfl rfl rfl (p_move rfl) ?_)
      obtain ⟨d9, e0⟩ := chk_some i4
      refine AO.gp rfl rfl rfl (s_indexV (q := ((rd (rw_ a1 a3.toNat) 1 + (rd a2 a3.toNat)).tmod a0).toNat) underlying76 sizeOf4 rfl rfl rfl d9 (z1 _)) (AO.gc rfl rfl rfl (s_load isAgg4 rfl (row_cell (a4.get (k := 0) rfl) (bls_get (lt_len a9 (inR_lt d9))))) (AO.p rfl (p_pickF rfl rfl) (AO.m rfl rfl (AO.cases (d := 60) rfl (fun c3 => ?_) (fun c3 => ?_)))))
      ·have i5 := bif_t c3 e0
       refine AO.gn rfl rfl rfl (AO.gn rfl rfl rfl (AO.gn rfl rfl rfl (AO.gn rfl rfl rfl (AO.gn rfl rfl rfl (AO.gn rfl rfl rfl (AO.gn rfl rfl rfl (AO.p rfl (p_pickT rfl rfl) (AO.nil ?_))))))))
       have i6 := a4.front 1 rfl
       have i7 := i6.front 1 rfl
       exact ⟨true, (some_inj i5), i7, Sub.k8 rfl rfl rfl rfl rfl rfl rfl rfl (Sub.k1 rfl (Sub.nil _))⟩
      ·have i8 := bif_f c3 e0
       refine AO.gp rfl rfl rfl (p_move rfl) (AO.gp rfl rfl rfl (p_move rfl) (AO.gp rfl rfl rfl (p_move rfl) ?_))
       obtain ⟨c4, i9⟩ := chk_some i8
       refine AO.gp rfl rfl rfl (s_indexV (q := off p_a2 + a3.toNat) underlying27 sizeOf2 rfl ((a4.view v_a2).p (ints_get (lt_len rfl (inR_lt c4)))) rfl c4 (o1 _ _)) (AO.gc rfl rfl rfl (s_load isAgg2 rfl ((a4.view v_a2).get _ _ (ints_get (lt_len rfl (inR_lt c4))))) ?_)
       obtain ⟨e1, j0⟩ := chk_some i9
       refine AO.gp rfl rfl rfl (s_indexV (q := (rd a2 a3.toNat).toNat) underlying76 sizeOf4 rfl rfl rfl e1 (z1 _)) (AO.gc rfl rfl rfl (s_load isAgg4 rfl (row_cell (a4.get (k := 1) rfl) (bls_get (lt_len b1 (inR_lt e1))))) (AO.p rfl (p_pickF rfl rfl) (AO.nil ?_)))
       have j1 := a4.front 1 rfl
       have j2 := j1.front 1 rfl
       exact ⟨(rdb a6 ((rd a2 a3.toNat).toNat)), (some_inj j0), j2, Sub.k8 rfl rfl rfl rfl rfl rfl rfl rfl (Sub.k1 rfl (Sub.nil _))⟩
    ·rintro t' m5 ⟨c1, rfl, c5, j3⟩
     refine AX.sub j3 (AX.cond rfl (fun c6 => ?_) (fun c6 => ?_))
     ·have j4 := bif_t c6 d6
      refine AX.sr (AO.a rfl rfl (AO.nil (AX.ret ?_)))
      obtain rfl := some_inj j4
      have j5 : _ = d0 := b3
      subst j5
      obtain rfl := some_inj d1
      exact ⟨.inr rfl, _, res1 rfl (rv_tmp rfl), rfl, (flatB_ok rfl), c5.hold⟩
     ·have j6 := bif_f c6 d6
      refine AX.skip (AX.sr (AO.m rfl rfl (AO.m rfl rfl ?_)))
      obtain ⟨e2, j7⟩ := chk_some j6
      refine AO.p rfl (s_indexV (q := ((rd (rw_ a1 a3.toNat) 0 + (rd a2 a3.toNat)).tmod a0).toNat) underlying76 sizeOf4 rfl rfl rfl e2 (z1 _)) ?_
      obtain ⟨m6, j8, e3⟩ := c5.set (k := 0) (i := a7) rfl (AObj.row false (bls (a5.set (((rd (rw_ a1 a3.toNat) 0 + (rd a2 a3.toNat)).tmod a0).toNat) true)))
      refine AO.s (s_store sizeOf4 rfl rfl rfl (c5.get (k := 0) rfl) (lt_len ((bls_length _).trans a9) (inR_lt e2)) ((congrArg (fun l => List.set _ _ (AObj.row false l)) (bls_set _ _ _)).trans j8)) (AO.nil (AX.sr (AO.m rfl rfl (AO.m rfl rfl ?_))))
      obtain ⟨e4, j9⟩ := chk_some j7
      refine AO.p rfl (s_indexV (q := ((rd (rw_ a1 a3.toNat) 1 + (rd a2 a3.toNat)).tmod a0).toNat) underlying76 sizeOf4 rfl rfl rfl e4 (z1 _)) ?_
      obtain ⟨m7, k0, b0⟩ := e3.set (k := 0) (i := a7) rfl (AObj.row false (bls ((a5.set (((rd (rw_ a1 a3.toNat) 0 + (rd a2 a3.toNat)).tmod a0).toNat) true).set (((rd (rw_ a1 a3.toNat) 1 + (rd a2 a3.toNat)).tmod a0).toNat) true)))
      refine AO.s (s_store sizeOf4 rfl rfl rfl (e3.get (k := 0) rfl) (lt_len ((bls_length _).trans (len_set a9)) (inR_lt e4)) ((congrArg (fun l => List.set _ _ (AObj.row false l)) (bls_set _ _ _)).trans k0)) (AO.nil (AX.region (AO.m rfl rfl (AO.m rfl rfl (AO.m rfl rfl ?_)))))
      obtain ⟨c7, k3⟩ := chk_some j9
      refine AO.p rfl (s_indexV (q := off p_a2 + a3.toNat) underlying27 sizeOf2 rfl ((b0.view v_a2).p (ints_get (lt_len rfl (inR_lt c7)))) rfl c7 (o1 _ _)) (AO.c rfl (s_load isAgg2 rfl ((b0.view v_a2).get _ _ (ints_get (lt_len rfl (inR_lt c7))))) ?_)
      obtain ⟨e5, k5⟩ := chk_some k3
      refine AO.p rfl (s_indexV (q := (rd a2 a3.toNat).toNat) underlying76 sizeOf4 rfl rfl rfl e5 (z1 _)) ?_
      obtain ⟨m8, k6, k7⟩ := b0.set (k := 1) (i := a8) rfl (AObj.row false (bls (a6.set ((rd a2 a3.toNat).toNat) true)))
      refine AO.s (s_store sizeOf4 rfl rfl rfl (b0.get (k := 1) rfl) (lt_len ((bls_length _).trans b1) (inR_lt e5)) ((congrArg (fun l => List.set _ _ (AObj.row false l)) (bls_set _ _ _)).trans k6)) (AO.nil (AX.region (AO.m rfl rfl ?_)))
      obtain ⟨k9, l0⟩ := chk_some k5
      refine AO.p rfl (p_addE rfl rfl k9) (AO.a rfl rfl (AO.nil ?_))
      obtain rfl := some_inj l0
      have l1 := k7.front 1 rfl
      have l2 := l1.front 1 rfl
      exact ⟨(((a5.set (((rd (rw_ a1 a3.toNat) 0 + (rd a2 a3.toNat)).tmod a0).toNat) true).set (((rd (rw_ a1 a3.toNat) 1 + (rd a2 a3.toNat)).tmod a0).toNat) true), (a6.set ((rd a2 a3.toNat).toNat) true), a3 + 1), b3, ((a5.set (((rd (rw_ a1 a3.toNat) 0 + (rd a2 a3.toNat)).tmod a0).toNat) true).set (((rd (rw_ a1 a3.toNat) 1 + (rd a2 a3.toNat)).tmod a0).toNat) true), (a6.set ((rd a2 a3.toNat).toNat) true), (a3 + 1), rfl, l2, (len_set (len_set a9)), (len_set b1), Sub.k4 rfl rfl rfl rfl (Sub.k2 rfl rfl (Sub.nil _))⟩
   ·have l3 := bif_f b4 b2
    refine AX.exit ?_
    obtain rfl := some_inj l3
    have l4 := a4.keep 0
    exact ⟨b3, l4, Sub.nil _⟩
 ·rintro t' m9 ⟨rfl, l5, l6⟩
  refine ⟨_, l6, ?_⟩
  refine AX.sr (AO.a rfl rfl (AO.nil (AX.ret ?_)))
  obtain rfl := some_inj d1
  exact ⟨.inr rfl, _, res1 rfl (rv_tmp rfl), rfl, (flatB_ok rfl), l5.hold⟩
set_option maxHeartbeats 4000000 in
theorem W_impl_isAdder (fu : Nat) (H : AHeap) (a0 : Int) (p_a1 : Option Addr) (c_a1 : Nat) (T_a1 : Tb) (a1 : List (List Int)) (t_a1 : trows T_a1 = a1) (v_a1 : Vw H p_a1 a1.length c_a1 (tcells T_a1)) (w_a1 : TVw H T_a1) (p_a2 : Option Addr) (c_a2 : Nat) (a2 : List Int) (v_a2 : Vw H p_a2 a2.length c_a2 (ints a2)) (r0 : Bool) (hd : D_impl_isAdder fu a0 a1 a2 = some r0) : ACall Tryz.prog 40 [.int .i64 a0, .slice p_a1 a1.length c_a1, .slice p_a2 a2.length c_a2] H (.bool r0) H := by
 refine ACall.bodyP (N := 48) [(0, .int .i64 a0), (1, .slice p_a1 a1.length c_a1), (2, .slice p_a2 a2.length c_a2)] Tryz.func40 rfl rfl rfl rfl ?_
 unfold D_impl_isAdder at hd
 have S0 : St [] H H [] := St.nil H
 refine AX.sr (AO.a rfl rfl (AO.nil (AX.sr ?_)))
 obtain ⟨i8, c3, d5, d6, d7⟩ := S0.new (AObj.row false (ints []))
 refine AO.c rfl (s_build0 (i := c3) underlying27 sizeOf2 d5 d6) (AO.a rfl rfl (AO.nil (AX.seq (AX.sr (AO.m rfl rfl (AO.p rfl (p_len_slice rfl underlying27) (AO.m rfl rfl (AO.nil ?_))))))))
 obtain ⟨d8, d9, e0⟩ := bnd_some hd
 refine AX.cutS (fun t' H' => ∃ (a6 : List Int) (a7 : Option Addr) (a8 : Nat), a6 = d8 ∧ St [] H H' [oseg a7 (ints a6)] ∧ Sb a7 (a6.length) a8 1 ∧ Am.Sub [(2, .slice p_a2 a2.length c_a2), (7, .slice a7 a6.length a8)] t') ?_ ?_
 ·refine AX.block (AX.loopF (fun s' t' H' => ∃ (a4 : List Int) (a3 : Int) (a9 : Option Addr) (b0 : Nat), (a4, a3) = s' ∧ St [] H H' [oseg a9 (ints a4)] ∧ Sb a9 (a4.length) b0 1 ∧ Am.Sub [(0, .int .i64 a0), (1, .slice p_a1 a1.length c_a1), (2, .slice p_a2 a2.length c_a2), (7, .slice a9 a4.length b0), (11, .slice p_a2 a2.length c_a2), (12, .int .i64 ((a2.length : Nat) : Int)), (13, .int .i64 a3)] t') d9 ?_ ?_)
  ·skip
   have e1 := d7.front 0 rfl
   exact ⟨[], 0, (some (Addr.mk c3 0 none)), 0, rfl, e1, (Sb.lit (n := 0) (by decide)), Sub.k4 rfl rfl rfl rfl (Sub.k2 rfl rfl (Sub.k1 rfl (Sub.nil _)))⟩
  ·rintro i9 _ t' j0 ⟨a4, a3, a9, b0, rfl, a5, b2, e2⟩ j1 b3 c4
   refine AX.sub e2 ?_
   unfold D_impl_isAdder_s0 at b3
   refine AX.sr (AO.p rfl (p_lss rfl rfl) (AO.nil (AX.seq (AX.cond rfl (fun b4 => ?_) (fun b4 => ?_)))))
   ·have e3 := bif_t b4 b3
    refine AX.skip (AX.seq (AX.block (AX.sr (AO.m rfl rfl ?_))))
    obtain ⟨b5, e4⟩ := chk_some e3
    refine AO.p rfl (s_indexV (q := off p_a2 + a3.toNat) underlying27 sizeOf2 rfl ((a5.view v_a2).p (ints_get (lt_len rfl (inR_lt b5)))) rfl b5 (o1 _ _)) (AO.c rfl (s_load isAgg2 rfl ((a5.view v_a2).get _ _ (ints_get (lt_len rfl (inR_lt b5))))) (AO.a rfl rfl (AO.a rfl rfl (AO.nil (DR.startS [false, false, false, false, false, false, false, false, false, false, false, false, false, false, false, false, false, false, false, false, false, false, true, false] mix (by kernel_rfl) (fun hst => ?_))))))
    refine DR.p rfl rfl (p_move rfl) (DR.p rfl rfl (p_move rfl) (DR.p rfl rfl (p_move rfl) ?_))
    obtain ⟨c5, e5⟩ := chk_some e4
    obtain ⟨e6, j2, b6, c6⟩ := tget t_a1 (lt_len rfl (inR_lt c5))
    refine DR.p rfl rfl (s_indexV (q := off p_a1 + a3.toNat) underlying24 sizeOf27 rfl ((a5.view v_a1).p c6) rfl c5 (o1 _ _)) (DR.r rfl rfl (r_load rfl isAgg27) (one_read ((a5.view v_a1).get _ _ c6) (TVw.at (a5.tview w_a1) b6).inn.bel) ?_)
    obtain ⟨b7, e7⟩ := chk_some e5
    refine DR.p rfl rfl (s_indexV (q := off e6 + 0) underlying27 sizeOf2 rfl ((TVw.at (a5.tview w_a1) b6).p (ints_get (lt_len rfl (inR_lt b7)))) rfl b7 (o1 _ _)) (DR.r rfl rfl (r_load rfl isAgg2) (one_read ((TVw.at (a5.tview w_a1) b6).get _ _ (ints_get (lt_len rfl (inR_lt b7)))) (.of_flat0 rfl)) (DR.p rfl rfl (p_move rfl) ?_))
    obtain ⟨e8, e9⟩ := chk_some e7
    refine DR.p rfl rfl (p_addE rfl rfl e8) (DR.p rfl rfl (p_move rfl) ?_)
    obtain ⟨f0, f1⟩ := chk_some e9
    refine DR.p rfl rfl (p_remE rfl rfl f0) (DR.p rfl rfl (p_move rfl) (DR.p rfl rfl (p_move rfl) ?_))
    obtain ⟨c7, f2⟩ := chk_some f1
    obtain ⟨f3, j3, b8, c8⟩ := tget t_a1 (lt_len rfl (inR_lt c7))
    refine DR.p rfl rfl (s_indexV (q := off p_a1 + a3.toNat) underlying24 sizeOf27 rfl ((a5.view v_a1).p c8) rfl c7 (o1 _ _)) (DR.r rfl rfl (r_load rfl isAgg27) (one_read ((a5.view v_a1).get _ _ c8) (TVw.at (a5.tview w_a1) b8).inn.bel) ?_)
    obtain ⟨b9, f4⟩ := chk_some f2
    refine DR.p rfl rfl (s_indexV (q := off f3 + 1) underlying27 sizeOf2 rfl ((TVw.at (a5.tview w_a1) b8).p (ints_get (lt_len rfl (inR_lt b9)))) rfl b9 (o1 _ _)) (DR.r rfl rfl (r_load rfl isAgg2) (one_read ((TVw.at (a5.tview w_a1) b8).get _ _ (ints_get (lt_len rfl (inR_lt b9)))) (.of_flat0 rfl)) (DR.p rfl rfl (p_move rfl) ?_))
    obtain ⟨f5, f6⟩ := chk_some f4
    refine DR.p rfl rfl (p_addE rfl rfl f5) (DR.p rfl rfl (p_move rfl) ?_)
    obtain ⟨f7, f8⟩ := chk_some f6
    refine DR.p rfl rfl (p_remE rfl rfl f7) ?_
    obtain ⟨j4, j5, f9, g0, c0⟩ := a5.new (AObj.row false (ints [(rd (rw_ a1 a3.toNat) 0 + (rd a2 a3.toNat)).tmod a0, (rd (rw_ a1 a3.toNat) 1 + (rd a2 a3.toNat)).tmod a0]))
    refine DR.a rfl rfl f9 g0 (a_buildInts (vs := [(0, .int .i64 ((rd (rw_ a1 a3.toNat) 0 + (rd a2 a3.toNat)).tmod a0)), (1, .int .i64 ((rd (rw_ a1 a3.toNat) 1 + (rd a2 a3.toNat)).tmod a0))]) (xs := [(rd (rw_ a1 a3.toNat) 0 + (rd a2 a3.toNat)).tmod a0, (rd (rw_ a1 a3.toNat) 1 + (rd a2 a3.toNat)).tmod a0]) underlying27 sizeOf2 zeroValue2 rfl rfl (by decide) rfl rfl) ?_
    obtain ⟨g1, g2⟩ := chk_some f8
    obtain ⟨c9, d0, j6, d1, g3, g4⟩ := c0.app (k := 1) rfl b2 (ints [(rd (rw_ a1 a3.toNat) 0 + (rd a2 a3.toNat)).tmod a0, (rd (rw_ a1 a3.toNat) 1 + (rd a2 a3.toNat)).tmod a0]) 2 (ints_len1 rfl)
    have g5 := g3.cellsEq (k := 1) (us' := ints (a4 ++ [(rd (rw_ a1 a3.toNat) 0 + (rd a2 a3.toNat)).tmod a0, (rd (rw_ a1 a3.toNat) 1 + (rd a2 a3.toNat)).tmod a0])) (ints_app _ _) rfl
    have g6 : Sb c9 ((a4 ++ [(rd (rw_ a1 a3.toNat) 0 + (rd a2 a3.toNat)).tmod a0, (rd (rw_ a1 a3.toNat) 1 + (rd a2 a3.toNat)).tmod a0]).length) d0 1 := (show a4.length + 2 = (a4 ++ [(rd (rw_ a1 a3.toNat) 0 + (rd a2 a3.toNat)).tmod a0, (rd (rw_ a1 a3.toNat) 1 + (rd a2 a3.toNat)).tmod a0]).length from len_app (a := a4) (b := [(rd (rw_ a1 a3.toNat) 0 + (rd a2 a3.toNat)).tmod a0, (rd (rw_ a1 a3.toNat) 1 + (rd a2 a3.toNat)).tmod a0]) rfl rfl) ▸ g4
    have g7 := g5.drop 0 rfl
    refine DR.w rfl rfl (s_app (by_ := 8) (us := ints a4) (vs := ints [(rd (rw_ a1 a3.toNat) 0 + (rd a2 a3.toNat)).tmod a0, (rd (rw_ a1 a3.toNat) 1 + (rd a2 a3.toNat)).tmod a0]) underlying27 underlying27 typeInfo2 sizeOf2 zeroValue2 rfl rfl rfl rfl rfl rfl rfl (c0.buf (k := 1) rfl b2 (ints_len1 rfl)) (c0.oview (k := 0) rfl (Sb.lit (n := 2) (by decide)) (ints_len1 rfl)) (ints_len1 rfl) ints_one g1 d1 (show a4.length + 2 = (a4 ++ [(rd (rw_ a1 a3.toNat) 0 + (rd a2 a3.toNat)).tmod a0, (rd (rw_ a1 a3.toNat) 1 + (rd a2 a3.toNat)).tmod a0]).length from len_app (a := a4) (b := [(rd (rw_ a1 a3.toNat) 0 + (rd a2 a3.toNat)).tmod a0, (rd (rw_ a1 a3.toNat) 1 + (rd a2 a3.toNat)).tmod a0]) rfl rfl)) (appR_len d1) (DR.p rfl rfl (p_assign rfl) (DR.nil 24 [] hst (by kernel_rfl) trivial (AX.region ?_)))
    obtain ⟨g8, g9⟩ := chk_some g2
    refine AO.p rfl (p_addE rfl rfl g8) (AO.m rfl rfl (AO.nil ?_))
    obtain rfl := some_inj g9
    have h0 := g7.front 0 rfl
    exact ⟨((a4 ++ [(rd (rw_ a1 a3.toNat) 0 + (rd a2 a3.toNat)).tmod a0, (rd (rw_ a1 a3.toNat) 1 + (rd a2 a3.toNat)).tmod a0]), a3 + 1), c4, (a4 ++ [(rd (rw_ a1 a3.toNat) 0 + (rd a2 a3.toNat)).tmod a0, (rd (rw_ a1 a3.toNat) 1 + (rd a2 a3.toNat)).tmod a0]), (a3 + 1), c9, d0, rfl, h0, g6, Sub.k4 rfl rfl rfl rfl (Sub.k2 rfl rfl (Sub.k1 rfl (Sub.nil _)))⟩
   ·have h1 := bif_f b4 b3
    refine AX.exit ?_
    obtain rfl := some_inj h1
    have h2 := a5.front 0 rfl
    exact ⟨a4, a9, b0, c4, h2, b2, Sub.k2 rfl rfl (Sub.nil _)⟩
 ·rintro t' d2 ⟨a6, a7, a8, rfl, b1, h3, h4⟩
  refine ⟨_, h4, ?_⟩
  obtain ⟨h5, h6, h7⟩ := bnd_some e0
  refine AX.cut (fun t' H' => ∃ (c1 : Bool), c1 = h5 ∧ St [] H H' [] ∧ Am.Sub [(6, .bool c1)] t') ?_ ?_
  ·skip
   refine AX.region (AO.m rfl rfl ?_)
   obtain ⟨h8, h9, d3⟩ := bnd_some h6
   refine AO.c rfl (o_call (vs := [.slice p_a2 a2.length c_a2]) rfl Tryz.call44 (W_impl_areDifferent fu d2 p_a2 c_a2 a2 (b1.view v_a2) h8 h9)) (AO.m rfl rfl (AO.cases (d := 44) rfl (fun c2 => ?_) (fun c2 => ?_)))
   ·have i0 := bif_t c2 d3
    refine AO.gp rfl rfl rfl (p_move rfl) ?_
    obtain ⟨d4, i1, i2⟩ := bnd_some i0
    refine AO.gc rfl rfl rfl (o_call (vs := [.slice a7 a6.length a8]) rfl Tryz.call44 (W_impl_areDifferent fu d2 a7 a8 a6 (b1.oview (k := 0) rfl h3 (ints_len1 rfl)) d4 i1)) (AO.p rfl (p_pickT rfl rfl) (AO.a rfl rfl (AO.nil ?_)))
    have i3 := b1.keep 0
    exact ⟨d4, (some_inj i2), i3, Sub.k1 rfl (Sub.nil _)⟩
   ·have i4 := bif_f c2 d3
    refine AO.gn rfl rfl rfl (AO.gn rfl rfl rfl (AO.p rfl (p_pickF rfl rfl) (AO.a rfl rfl (AO.nil ?_))))
    have i5 := b1.keep 0
    exact ⟨false, (some_inj i4), i5, Sub.k1 rfl (Sub.nil _)⟩
  ·rintro t' j7 ⟨c1, rfl, i6, i7⟩
   refine AX.sub i7 (AX.ret ?_)
   obtain rfl := some_inj h7
   exact ⟨.inr rfl, _, res1 rfl (rv_tmp rfl), rfl, (flatB_ok rfl), i6.hold⟩
end Go.Proofs.YtdafmafigcljkaaGreat
