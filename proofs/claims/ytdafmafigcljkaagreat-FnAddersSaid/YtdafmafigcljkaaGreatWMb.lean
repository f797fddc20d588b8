
/-
 The program computes that, printed by a program. No condition.
-/
import Derived.Test.YtdafmafigcljkaaGreatDMb
import Derived.Test.YtdafmafigcljkaaGreatWA
import Derived.Test.YtdafmafigcljkaaGreatCa
import Derived.Test.YtdafmafigcljkaaGreatProg
import Derived.KernelRfl
namespace Go.Proofs.YtdafmafigcljkaaGreat
open Go Go.RowKit Am Go.Proofs.Tryz
set_option linter.unusedVariables false
set_option linter.unusedSimpArgs false
set_option maxRecDepth 20000
set_option maxHeartbeats 4000000 in
theorem W_slices_IndexFunc_SSint64_Sint64 (fu : Nat) (H : AHeap) (p_a0 : Option Addr) (c_a0 : Nat) (T_a0 : Tb) (a0 : List (List Int)) (t_a0 : trows T_a0 = a0) (v_a0 : Vw H p_a0 a0.length c_a0 (tcells T_a0)) (w_a0 : TVw H T_a0) (f_a1 : FuncId) (fs_a1 cs_a1 : Array Value) (a1 : (List Int) → Option Bool) (hc_a1 : ∀ args w, (callFunc f_a1 args).run Tryz.prog w = .ok (.enter f_a1 args) w) (hq_a1 : ∀ H', ExtG H H' → ∀ (p_x0_a1 : Option Addr) (c_x0_a1 : Nat) (x0_a1 : List Int) (v_x0_a1 : Vw H' p_x0_a1 x0_a1.length c_x0_a1 (ints x0_a1)) (b : Bool), a1 x0_a1 = some b → ACall Tryz.prog f_a1 (fs_a1.toList ++ [.slice p_x0_a1 x0_a1.length c_x0_a1] ++ cs_a1.toList) H' (.bool b) H') (r0 : Int) (hd : D_slices_IndexFunc_SSint64_Sint64 fu a0 a1 = some r0) : ACall Tryz.prog 94 [.slice p_a0 a0.length c_a0, .func (.func f_a1) fs_a1 cs_a1] H (.int .i64 r0) H := by
 refine ACall.bodyP (N := 19) [(0, .slice p_a0 a0.length c_a0), (1, .func (.func f_a1) fs_a1 cs_a1)] Tryz.func94 rfl rfl rfl rfl ?_
 unfold D_slices_IndexFunc_SSint64_Sint64 at hd
 have S0 : St [] H H [] := St.nil H
 refine AX.sr (AO.a rfl rfl (AO.nil (AX.seq (AX.sr (AO.m rfl rfl (AO.p rfl (p_len_slice rfl underlying24) (AO.m rfl rfl (AO.nil ?_))))))))
 obtain ⟨a8, b5, a9⟩ := bnd_some hd
 refine AX.cutS (fun t' H' => .inl () = a8 ∧ St [] H H' [] ∧ Am.Sub [] t') ?_ ?_
 ·refine AX.block (AX.loopF (fun s' t' H' => ∃ (a2 : Int), a2 = s' ∧ St [] H H' [] ∧ Am.Sub [(0, .slice p_a0 a0.length c_a0), (1, .func (.func f_a1) fs_a1 cs_a1), (7, .int .i64 ((a0.length : Nat) : Int)), (8, .int .i64 a2)] t') b5 ?_ ?_)
  ·skip
   exact ⟨0, rfl, S0, Sub.k4 rfl rfl rfl rfl (Sub.nil _)⟩
  ·rintro d1 _ t' b6 ⟨a2, rfl, a3, b7⟩ d2 a4 a5
   refine AX.sub b7 ?_
   unfold D_slices_IndexFunc_SSint64_Sint64_s0 at a4
   refine AX.sr (AO.p rfl (p_lss rfl rfl) (AO.nil (AX.seq (AX.cond rfl (fun a6 => ?_) (fun a6 => ?_)))))
   ·have b8 := bif_t a6 a4
    refine AX.skip (AX.seq (AX.block (AX.sr (AO.m rfl rfl (AO.a rfl rfl (AO.nil (AX.sr (AO.m rfl rfl (AO.m rfl rfl (AO.m rfl rfl ?_))))))))))
    obtain ⟨b0, b9⟩ := chk_some b8
    obtain ⟨b1, b2, c0, b3⟩ := tget t_a0 (lt_len rfl (inR_lt b0))
    refine AO.p rfl (s_indexV (q := off p_a0 + a2.toNat) underlying24 sizeOf27 rfl ((a3.view v_a0).p b3) rfl b0 (o1 _ _)) (AO.c rfl (s_load isAgg27 rfl ((a3.view v_a0).get _ _ b3)) ?_)
    obtain ⟨c1, c2, b4⟩ := bnd_some b9
    refine AO.c rfl (o_callV (vs := [.slice b1 ((rw_ a0 a2.toNat).length) b2]) rfl rfl hc_a1 (hq_a1 b6 a3.ext b1 b2 (rw_ a0 a2.toNat) (TVw.at (a3.tview w_a0) c0) c1 c2)) (AO.nil (AX.cond rfl (fun a7 => ?_) (fun a7 => ?_)))
    ·have c3 := bif_t a7 b4
     refine AX.sr (AO.m rfl rfl (AO.a rfl rfl (AO.nil (AX.ret ?_))))
     obtain rfl := some_inj c3
     have c4 : _ = a8 := a5
     subst c4
     obtain rfl := some_inj a9
     exact ⟨.inr rfl, _, res1 rfl (rv_tmp rfl), rfl, (flatB_ok rfl), a3.hold⟩
    ·have c5 := bif_f a7 b4
     refine AX.skip (AX.region ?_)
     obtain ⟨c6, c7⟩ := chk_some c5
     refine AO.p rfl (p_addE rfl rfl c6) (AO.m rfl rfl (AO.nil ?_))
     obtain rfl := some_inj c7
     exact ⟨a2 + 1, a5, (a2 + 1), rfl, a3, Sub.k4 rfl rfl rfl rfl (Sub.nil _)⟩
   ·have c8 := bif_f a6 a4
    refine AX.exit ?_
    obtain rfl := some_inj c8
    exact ⟨a5, a3, Sub.nil _⟩
 ·rintro t' d3 ⟨rfl, c9, d0⟩
  refine ⟨_, d0, ?_⟩
  refine AX.sr (AO.a rfl rfl (AO.nil (AX.ret ?_)))
  obtain rfl := some_inj a9
  exact ⟨.inr rfl, _, res1 rfl (rv_tmp rfl), rfl, (flatB_ok rfl), c9.hold⟩
set_option maxHeartbeats 4000000 in
theorem W_slices_ContainsFunc_SSint64_Sint64 (fu : Nat) (H : AHeap) (p_a0 : Option Addr) (c_a0 : Nat) (T_a0 : Tb) (a0 : List (List Int)) (t_a0 : trows T_a0 = a0) (v_a0 : Vw H p_a0 a0.length c_a0 (tcells T_a0)) (w_a0 : TVw H T_a0) (f_a1 : FuncId) (fs_a1 cs_a1 : Array Value) (a1 : (List Int) → Option Bool) (hc_a1 : ∀ args w, (callFunc f_a1 args).run Tryz.prog w = .ok (.enter f_a1 args) w) (hq_a1 : ∀ H', ExtG H H' → ∀ (p_x0_a1 : Option Addr) (c_x0_a1 : Nat) (x0_a1 : List Int) (v_x0_a1 : Vw H' p_x0_a1 x0_a1.length c_x0_a1 (ints x0_a1)) (b : Bool), a1 x0_a1 = some b → ACall Tryz.prog f_a1 (fs_a1.toList ++ [.slice p_x0_a1 x0_a1.length c_x0_a1] ++ cs_a1.toList) H' (.bool b) H') (r0 : Bool) (hd : D_slices_ContainsFunc_SSint64_Sint64 fu a0 a1 = some r0) : ACall Tryz.prog 84 [.slice p_a0 a0.length c_a0, .func (.func f_a1) fs_a1 cs_a1] H (.bool r0) H := by
 refine ACall.bodyP (N := 9) [(0, .slice p_a0 a0.length c_a0), (1, .func (.func f_a1) fs_a1 cs_a1)] Tryz.func84 rfl rfl rfl rfl ?_
 unfold D_slices_ContainsFunc_SSint64_Sint64 at hd
 have S0 : St [] H H [] := St.nil H
 refine AX.sr (AO.a rfl rfl (AO.nil (AX.sr (AO.m rfl rfl (AO.m rfl rfl ?_)))))
 obtain ⟨a2, a3, a4⟩ := bnd_some hd
 refine AO.c rfl (o_call (vs := [.slice p_a0 a0.length c_a0, .func (.func f_a1) fs_a1 cs_a1]) rfl Tryz.call94 (W_slices_IndexFunc_SSint64_Sint64 fu H p_a0 c_a0 T_a0 a0 t_a0 (S0.view v_a0) (S0.tview w_a0) f_a1 fs_a1 cs_a1 a1 hc_a1 (fun G' hG => hq_a1 G' (S0.ext.trans hG)) a2 a3)) (AO.p rfl (p_geq rfl rfl) (AO.a rfl rfl (AO.nil (AX.ret ?_))))
 obtain rfl := some_inj a4
 exact ⟨.inr rfl, _, res1 rfl (rv_tmp rfl), rfl, (flatB_ok rfl), S0.hold⟩
set_option maxHeartbeats 4000000 in
theorem W_impl_arePairs_1 (fu : Nat) (H : AHeap) (p_a0 : Option Addr) (c_a0 : Nat) (a0 : List Int) (v_a0 : Vw H p_a0 a0.length c_a0 (ints a0)) (i_b0 : Nat) (ro_b0 : Bool) (b0_0 : Int) (o_b0 : hget H i_b0 = .row ro_b0 ([.int .i64 b0_0])) (r0 : Bool) (hd : D_impl_arePairs_1 fu a0 b0_0 = some r0) : ACall Tryz.prog 85 [.slice p_a0 a0.length c_a0, .pointer (some ⟨i_b0, 0, none⟩)] H (.bool r0) H := by
 refine ACall.bodyP (N := 34) [(0, .slice p_a0 a0.length c_a0), (1, .pointer (some ⟨i_b0, 0, none⟩))] Tryz.func85 rfl rfl rfl rfl ?_
 unfold D_impl_arePairs_1 at hd
 have S0 : St [] H H [] := St.nil H
 refine AX.sr (AO.a rfl rfl (AO.nil ?_))
 obtain ⟨b2, a9, b3⟩ := bnd_some hd
 refine AX.cut (fun t' H' => ∃ (a1 : Bool), a1 = b2 ∧ St [] H H' [] ∧ Am.Sub [(3, .bool a1)] t') ?_ ?_
 ·skip
  refine DR.startS [false, false, false, false, false, false, false, false, false, true, false, false, false, false, false, false, false, false, true, false, false, false, false, false, false, false, false, false, false, false, false] mix (by kernel_rfl) (fun hst => ?_)
  refine DR.p rfl rfl (p_move rfl) (DR.p rfl rfl (p_len_slice rfl underlying27) (DR.p rfl rfl (p_neq rfl rfl) (DR.pb rfl rfl (p_move rfl) (fun a2 => ?_) (fun a2 => ?_))))
  ·have b4 := bif_t a2 a9
   refine DR.gn rfl rfl rfl rfl (DR.gn rfl rfl rfl rfl (DR.gn rfl rfl rfl rfl (DR.gn rfl rfl rfl rfl (DR.gn rfl rfl rfl rfl (DR.gn rfl rfl rfl rfl (DR.gn rfl rfl rfl rfl (DR.p rfl rfl (p_pickT rfl rfl) (DR.p rfl rfl (p_move rfl) (DR.gn rfl rfl rfl rfl (DR.gn rfl rfl rfl rfl (DR.gn rfl rfl rfl rfl (DR.gn rfl rfl rfl rfl (DR.gn rfl rfl rfl rfl ?_)))))))))))))
   refine DR.gn rfl rfl rfl rfl (DR.gn rfl rfl rfl rfl (DR.p rfl rfl (p_pickT rfl rfl) (DR.p rfl rfl (p_move rfl) (DR.gn rfl rfl rfl rfl (DR.gn rfl rfl rfl rfl (DR.gn rfl rfl rfl rfl (DR.gn rfl rfl rfl rfl (DR.gn rfl rfl rfl rfl (DR.gn rfl rfl rfl rfl (DR.gn rfl rfl rfl rfl (DR.p rfl rfl (p_pickT rfl rfl) (DR.p rfl rfl (p_assign rfl) (DR.nil 31 [] hst (by kernel_rfl) trivial ?_)))))))))))))
   exact ⟨true, (some_inj b4), S0, Sub.k1 rfl (Sub.nil _)⟩
  ·have b5 := bif_f a2 a9
   refine DR.gp rfl rfl rfl rfl (p_move rfl) ?_
   obtain ⟨a3, b6⟩ := chk_some b5
   refine DR.gp rfl rfl rfl rfl (s_indexV (q := off p_a0 + 0) underlying27 sizeOf2 rfl ((S0.view v_a0).p (ints_get (lt_len rfl (inR_lt a3)))) rfl a3 (o1 _ _)) (DR.gr rfl rfl rfl rfl (r_load rfl isAgg2) (one_read ((S0.view v_a0).get _ _ (ints_get (lt_len rfl (inR_lt a3)))) (.of_flat0 rfl)) (DR.gr rfl rfl rfl rfl (r_load rfl isAgg2) (one_read (row_cell (S0.old o_b0 (by simp)) rfl) (.of_flat0 rfl)) ?_))
   obtain ⟨b7, b8⟩ := chk_some b6
   refine DR.gp rfl rfl rfl rfl (p_subE rfl rfl b7) ?_
   obtain ⟨b9, c0, b0⟩ := bnd_some b8
   refine DR.gw rfl rfl rfl rfl (o_call (vs := [.int .i64 (rd a0 0), .int .i64 1, .int .i64 (b0_0 - 1)]) rfl Tryz.call39 (W_impl_between fu H (rd a0 0) 1 (b0_0 - 1) b9 c0)) (Nat.le_refl _) (DR.gp rfl rfl rfl rfl (p_not rfl) (DR.p rfl rfl (p_pickF rfl rfl) (DR.pb rfl rfl (p_move rfl) (fun a4 => ?_) (fun a4 => ?_))))
   ·have c1 := bif_t a4 b0
    refine DR.gn rfl rfl rfl rfl (DR.gn rfl rfl rfl rfl (DR.gn rfl rfl rfl rfl (DR.gn rfl rfl rfl rfl (DR.gn rfl rfl rfl rfl (DR.gn rfl rfl rfl rfl (DR.gn rfl rfl rfl rfl (DR.p rfl rfl (p_pickT rfl rfl) (DR.p rfl rfl (p_move rfl) (DR.gn rfl rfl rfl rfl (DR.gn rfl rfl rfl rfl (DR.gn rfl rfl rfl rfl (DR.gn rfl rfl rfl rfl (DR.gn rfl rfl rfl rfl ?_)))))))))))))
    refine DR.gn rfl rfl rfl rfl (DR.gn rfl rfl rfl rfl (DR.p rfl rfl (p_pickT rfl rfl) (DR.p rfl rfl (p_assign rfl) (DR.nil 31 [] hst (by kernel_rfl) trivial ?_))))
    exact ⟨true, (some_inj c1), S0, Sub.k1 rfl (Sub.nil _)⟩
   ·have c2 := bif_f a4 b0
    refine DR.gp rfl rfl rfl rfl (p_move rfl) ?_
    obtain ⟨a5, c3⟩ := chk_some c2
    refine DR.gp rfl rfl rfl rfl (s_indexV (q := off p_a0 + 1) underlying27 sizeOf2 rfl ((S0.view v_a0).p (ints_get (lt_len rfl (inR_lt a5)))) rfl a5 (o1 _ _)) (DR.gr rfl rfl rfl rfl (r_load rfl isAgg2) (one_read ((S0.view v_a0).get _ _ (ints_get (lt_len rfl (inR_lt a5)))) (.of_flat0 rfl)) (DR.gr rfl rfl rfl rfl (r_load rfl isAgg2) (one_read (row_cell (S0.old o_b0 (by simp)) rfl) (.of_flat0 rfl)) ?_))
    obtain ⟨c4, c5⟩ := chk_some c3
    refine DR.gp rfl rfl rfl rfl (p_subE rfl rfl c4) ?_
    obtain ⟨c6, c7, b1⟩ := bnd_some c5
    refine DR.gw rfl rfl rfl rfl (o_call (vs := [.int .i64 (rd a0 1), .int .i64 1, .int .i64 (b0_0 - 1)]) rfl Tryz.call39 (W_impl_between fu H (rd a0 1) 1 (b0_0 - 1) c6 c7)) (Nat.le_refl _) (DR.gp rfl rfl rfl rfl (p_not rfl) (DR.p rfl rfl (p_pickF rfl rfl) (DR.pb rfl rfl (p_move rfl) (fun a6 => ?_) (fun a6 => ?_))))
    ·have c8 := bif_t a6 b1
     refine DR.gn rfl rfl rfl rfl (DR.gn rfl rfl rfl rfl (DR.gn rfl rfl rfl rfl (DR.gn rfl rfl rfl rfl (DR.gn rfl rfl rfl rfl (DR.gn rfl rfl rfl rfl (DR.gn rfl rfl rfl rfl (DR.p rfl rfl (p_pickT rfl rfl) (DR.p rfl rfl (p_assign rfl) (DR.nil 31 [] hst (by kernel_rfl) trivial ?_)))))))))
     exact ⟨true, (some_inj c8), S0, Sub.k1 rfl (Sub.nil _)⟩
    ·have c9 := bif_f a6 b1
     refine DR.gp rfl rfl rfl rfl (p_move rfl) ?_
     obtain ⟨a7, d0⟩ := chk_some c9
     refine DR.gp rfl rfl rfl rfl (s_indexV (q := off p_a0 + 0) underlying27 sizeOf2 rfl ((S0.view v_a0).p (ints_get (lt_len rfl (inR_lt a7)))) rfl a7 (o1 _ _)) (DR.gr rfl rfl rfl rfl (r_load rfl isAgg2) (one_read ((S0.view v_a0).get _ _ (ints_get (lt_len rfl (inR_lt a7)))) (.of_flat0 rfl)) (DR.gp rfl rfl rfl rfl (p_move rfl) ?_))
     obtain ⟨a8, d1⟩ := chk_some d0
     refine DR.gp rfl rfl rfl rfl (s_indexV (q := off p_a0 + 1) underlying27 sizeOf2 rfl ((S0.view v_a0).p (ints_get (lt_len rfl (inR_lt a8)))) rfl a8 (o1 _ _)) (DR.gr rfl rfl rfl rfl (r_load rfl isAgg2) (one_read ((S0.view v_a0).get _ _ (ints_get (lt_len rfl (inR_lt a8)))) (.of_flat0 rfl)) (DR.gp rfl rfl rfl rfl (p_eql rfl rfl) (DR.p rfl rfl (p_pickF rfl rfl) (DR.p rfl rfl (p_assign rfl) (DR.nil 31 [] hst (by kernel_rfl) trivial ?_)))))
     exact ⟨(decide (rd a0 0 = rd a0 1)), (some_inj d1), S0, Sub.k1 rfl (Sub.nil _)⟩
 ·rintro t' d4 ⟨a1, rfl, d2, d3⟩
  refine AX.sub d3 (AX.ret ?_)
  obtain rfl := some_inj b3
  exact ⟨.inr rfl, _, res1 rfl (rv_tmp rfl), rfl, (flatB_ok rfl), d2.hold⟩
set_option maxHeartbeats 4000000 in
theorem W_impl_arePairs (fu : Nat) (H : AHeap) (a0 : Int) (p_a1 : Option Addr) (c_a1 : Nat) (T_a1 : Tb) (a1 : List (List Int)) (t_a1 : trows T_a1 = a1) (v_a1 : Vw H p_a1 a1.length c_a1 (tcells T_a1)) (w_a1 : TVw H T_a1) (r0 : Bool) (hd : D_impl_arePairs fu a0 a1 = some r0) : ACall Tryz.prog 68 [.int .i64 a0, .slice p_a1 a1.length c_a1] H (.bool r0) H := by
 refine ACall.bodyP (N := 9) [(0, .int .i64 a0), (1, .slice p_a1 a1.length c_a1)] Tryz.func68 rfl rfl rfl rfl ?_
 unfold D_impl_arePairs at hd
 have S0 : St [] H H [] := St.nil H
 refine AX.sr ?_
 obtain ⟨a4, a2, a5, a6, a3⟩ := S0.new (AObj.row false ([.int .i64 a0]))
 refine AO.c rfl (s_box (i := a2) (cs := [.int .i64 a0]) rfl a5 rfl a6) (AO.a rfl rfl (AO.nil (AX.sr (AO.m rfl rfl (AO.p rfl (p_makeFunc (fs := []) (cs := [.pointer (some ⟨a2, 0, none⟩)]) rfl rfl) ?_)))))
 obtain ⟨a7, a8, a9⟩ := bnd_some hd
 refine AO.c rfl (o_call (vs := [.slice p_a1 a1.length c_a1, .func (.func 85) #[] #[.pointer (some ⟨a2, 0, none⟩)]]) rfl Tryz.call84 (W_slices_ContainsFunc_SSint64_Sint64 fu a4 p_a1 c_a1 T_a1 a1 t_a1 (a3.view v_a1) (a3.tview w_a1) 85 #[] #[.pointer (some ⟨a2, 0, none⟩)] (fun x0' => D_impl_arePairs_1 fu x0' a0) Tryz.call85 (fun G' hG px0' cx0' x0' vx0' b' hb' => W_impl_arePairs_1 fu G' px0' cx0' x0' vx0' a2 false a0 (hG.get (a3.get (k := 0) rfl)) b' hb') a7 a8)) (AO.p rfl (p_not rfl) (AO.a rfl rfl (AO.nil (AX.ret ?_))))
 obtain rfl := some_inj a9
 exact ⟨.inr rfl, _, res1 rfl (rv_tmp rfl), rfl, (flatB_ok rfl), a3.hold⟩
set_option maxHeartbeats 4000000 in
theorem W_impl_size_Sint64 (fu : Nat) (H : AHeap) (p_a0 : Option Addr) (c_a0 : Nat) (T_a0 : Tb) (a0 : List (List Int)) (t_a0 : trows T_a0 = a0) (v_a0 : Vw H p_a0 a0.length c_a0 (tcells T_a0)) (w_a0 : TVw H T_a0) (r0 : Int) (hd : D_impl_size_Sint64 fu a0 = some r0) : ACall Tryz.prog 86 [.slice p_a0 a0.length c_a0] H (.int .i64 r0) H := by
 refine ACall.bodyP (N := 5) [(0, .slice p_a0 a0.length c_a0)] Tryz.func86 rfl rfl rfl rfl ?_
 unfold D_impl_size_Sint64 at hd
 have S0 : St [] H H [] := St.nil H
 refine AX.sr (AO.a rfl rfl (AO.nil (AX.sr (AO.m rfl rfl (AO.p rfl (p_len_slice rfl underlying24) (AO.a rfl rfl (AO.nil (AX.ret ?_))))))))
 obtain rfl := some_inj hd
 exact ⟨.inr rfl, _, res1 rfl (rv_tmp rfl), rfl, (flatB_ok rfl), S0.hold⟩
set_option maxHeartbeats 4000000 in
theorem W_impl_isStarter (fu : Nat) (H : AHeap) (a0 : Int) (p_a1 : Option Addr) (c_a1 : Nat) (T_a1 : Tb) (a1 : List (List Int)) (t_a1 : trows T_a1 = a1) (v_a1 : Vw H p_a1 a1.length c_a1 (tcells T_a1)) (w_a1 : TVw H T_a1) (r0 : Bool) (hd : D_impl_isStarter fu a0 a1 = some r0) : ACall Tryz.prog 69 [.int .i64 a0, .slice p_a1 a1.length c_a1] H (.bool r0) H := by
 refine ACall.bodyP (N := 97) [(0, .int .i64 a0), (1, .slice p_a1 a1.length c_a1)] Tryz.func69 rfl rfl rfl rfl ?_
 unfold D_impl_isStarter at hd
 have S0 : St [] H H [] := St.nil H
 refine AX.sr (AO.a rfl rfl (AO.nil (AX.sr ?_)))
 obtain ⟨o4, a7, g1, g2, g3⟩ := S0.new (AObj.map (ib []))
 refine AO.c rfl (s_makeMap (i := a7) g1 g2) ?_
 obtain ⟨o5, a8, g4, g5, g6⟩ := g3.new (AObj.map (ib []))
 refine AO.c rfl (s_makeMap (i := a8) g4 g5) (AO.a rfl rfl (AO.a rfl rfl (AO.nil (AX.seq (AX.sr (AO.m rfl rfl (AO.p rfl (p_len_slice rfl underlying24) (AO.m rfl rfl (AO.nil ?_)))))))))
 obtain ⟨d6, g7, d7⟩ := bnd_some hd
 refine AX.cutS (fun t' H' => ∃ (b4 : List (Int × Bool)) (b3 : List (Int × Bool)), .inl (b4, b3) = d6 ∧ St [] H H' [[(a7, AObj.map (ib b4))], [(a8, AObj.map (ib b3))]] ∧ Am.Sub [(0, .int .i64 a0), (1, .slice p_a1 a1.length c_a1), (5, .map (some a7)), (6, .map (some a8))] t') ?_ ?_
 ·refine AX.block (AX.loopF (fun s' t' H' => ∃ (a3 : List (Int × Bool)) (a4 : List (Int × Bool)) (a2 : Int), (a3, a4, a2) = s' ∧ St [] H H' [[(a7, AObj.map (ib a3))], [(a8, AObj.map (ib a4))]] ∧ Am.Sub [(0, .int .i64 a0), (1, .slice p_a1 a1.length c_a1), (5, .map (some a7)), (6, .map (some a8)), (11, .slice p_a1 a1.length c_a1), (12, .int .i64 ((a1.length : Nat) : Int)), (13, .int .i64 a2)] t') g7 ?_ ?_)
  ·skip
   have g8 := g6.front 0 rfl
   have g9 := g8.front 1 rfl
   exact ⟨[], [], 0, rfl, g9, Sub.k4 rfl rfl rfl rfl (Sub.k2 rfl rfl (Sub.k1 rfl (Sub.nil _)))⟩
  ·rintro o6 _ t' o7 ⟨a3, a4, a2, rfl, a6, h0⟩ o8 b5 b6
   refine AX.sub h0 ?_
   unfold D_impl_isStarter_s0 at b5
   refine AX.sr (AO.p rfl (p_lss rfl rfl) (AO.nil (AX.seq (AX.cond rfl (fun b7 => ?_) (fun b7 => ?_)))))
   ·have h1 := bif_t b7 b5
    refine AX.skip (AX.seq (AX.block (AX.sr (AO.m rfl rfl ?_))))
    obtain ⟨d8, h2⟩ := chk_some h1
    obtain ⟨a9, h3, a5, d9⟩ := tget t_a1 (lt_len rfl (inR_lt d8))
    refine AO.p rfl (s_indexV (q := off p_a1 + a2.toNat) underlying24 sizeOf27 rfl ((a6.view v_a1).p d9) rfl d8 (o1 _ _)) (AO.c rfl (s_load isAgg27 rfl ((a6.view v_a1).get _ _ d9)) (AO.a rfl rfl (AO.a rfl rfl (AO.nil (AX.seq ?_)))))
    obtain ⟨h4, h5, e0⟩ := bnd_some h2
    refine AX.cut (fun t' H' => ∃ (b8 : Bool), b8 = h4 ∧ St [] H H' [[(a7, AObj.map (ib a3))], [(a8, AObj.map (ib a4))]] ∧ Am.Sub [(0, .int .i64 a0), (1, .slice p_a1 a1.length c_a1), (5, .map (some a7)), (6, .map (some a8)), (8, .slice a9 ((rw_ a1 a2.toNat).length) h3), (11, .slice p_a1 a1.length c_a1), (12, .int .i64 ((a1.length : Nat) : Int)), (13, .int .i64 a2), (41, .bool b8)] t') ?_ ?_
    ·skip
     refine DR.startS [false, false, false, false, false, false, false, false, false, false, false, false, false, false, false, false, false, false, false, false, false, false, false, false] mix (by kernel_rfl) (fun hst => ?_)
     refine DR.p rfl rfl (p_move rfl) ?_
     obtain ⟨b9, h6⟩ := chk_some h5
     refine DR.p rfl rfl (s_indexV (q := off a9 + 0) underlying27 sizeOf2 rfl ((TVw.at (a6.tview w_a1) a5).p (ints_get (lt_len rfl (inR_lt b9)))) rfl b9 (o1 _ _)) (DR.r rfl rfl (r_load rfl isAgg2) (one_read ((TVw.at (a6.tview w_a1) a5).get _ _ (ints_get (lt_len rfl (inR_lt b9)))) (.of_flat0 rfl)) (DR.p rfl rfl (p_move rfl) ?_))
     obtain ⟨c0, e1⟩ := chk_some h6
     refine DR.p rfl rfl (s_indexV (q := off a9 + 1) underlying27 sizeOf2 rfl ((TVw.at (a6.tview w_a1) a5).p (ints_get (lt_len rfl (inR_lt c0)))) rfl c0 (o1 _ _)) (DR.r rfl rfl (r_load rfl isAgg2) (one_read ((TVw.at (a6.tview w_a1) a5).get _ _ (ints_get (lt_len rfl (inR_lt c0)))) (.of_flat0 rfl)) (DR.p rfl rfl (p_gtr rfl rfl) (DR.pb rfl rfl (p_move rfl) (fun c1 => ?_) (fun c1 => ?_))))
     ·have h7 := bif_t c1 e1
      refine DR.gn rfl rfl rfl rfl (DR.gn rfl rfl rfl rfl (DR.gn rfl rfl rfl rfl (DR.gu rfl rfl rfl rfl (DR.gu rfl rfl rfl rfl (DR.gu rfl rfl rfl rfl (DR.gu rfl rfl rfl rfl (DR.gu rfl rfl rfl rfl (DR.gu rfl rfl rfl rfl (DR.gu rfl rfl rfl rfl (DR.gu rfl rfl rfl rfl (DR.gu rfl rfl rfl rfl (DR.gu rfl rfl rfl rfl (DR.gu rfl rfl rfl rfl ?_)))))))))))))
      refine DR.gn rfl rfl rfl rfl (DR.p rfl rfl (p_pickT rfl rfl) (DR.nil 24 [] hst (by kernel_rfl) trivial ?_))
      have h8 := a6.front 1 rfl
      have h9 := h8.front 1 rfl
      exact ⟨true, (some_inj h7), h9, Sub.k8 rfl rfl rfl rfl rfl rfl rfl rfl (Sub.k1 rfl (Sub.nil _))⟩
     ·have e2 := bif_f c1 e1
      refine DR.gp rfl rfl rfl rfl (p_move rfl) (DR.gp rfl rfl rfl rfl (p_gtr rfl rfl) (DR.gpb rfl rfl rfl rfl (p_move rfl) (fun c2 => ?_) (fun c2 => ?_)))
      ·have i0 := bif_t c2 e2
       refine DR.gp rfl rfl rfl rfl (p_move rfl) ?_
       obtain ⟨c3, i1⟩ := chk_some i0
       refine DR.gp rfl rfl rfl rfl (s_indexV (q := off a9 + 0) underlying27 sizeOf2 rfl ((TVw.at (a6.tview w_a1) a5).p (ints_get (lt_len rfl (inR_lt c3)))) rfl c3 (o1 _ _)) (DR.gr rfl rfl rfl rfl (r_load rfl isAgg2) (one_read ((TVw.at (a6.tview w_a1) a5).get _ _ (ints_get (lt_len rfl (inR_lt c3)))) (.of_flat0 rfl)) (DR.gp rfl rfl rfl rfl (p_move rfl) (DR.gp rfl rfl rfl rfl (p_move rfl) ?_)))
       obtain ⟨i2, i3⟩ := chk_some i1
       refine DR.gp rfl rfl rfl rfl (p_subE rfl rfl i2) ?_
       obtain ⟨e3, i4⟩ := chk_some i3
       obtain ⟨i5, o9, c4, e4⟩ := tget t_a1 (lt_len rfl (inR_lt e3))
       refine DR.gp rfl rfl rfl rfl (s_indexV (q := off p_a1 + (a2 - 1).toNat) underlying24 sizeOf27 rfl ((a6.view v_a1).p e4) rfl e3 (o1 _ _)) (DR.gr rfl rfl rfl rfl (r_load rfl isAgg27) (one_read ((a6.view v_a1).get _ _ e4) (TVw.at (a6.tview w_a1) c4).inn.bel) ?_)
       obtain ⟨c5, i6⟩ := chk_some i4
       refine DR.gp rfl rfl rfl rfl (s_indexV (q := off i5 + 0) underlying27 sizeOf2 rfl ((TVw.at (a6.tview w_a1) c4).p (ints_get (lt_len rfl (inR_lt c5)))) rfl c5 (o1 _ _)) (DR.gr rfl rfl rfl rfl (r_load rfl isAgg2) (one_read ((TVw.at (a6.tview w_a1) c4).get _ _ (ints_get (lt_len rfl (inR_lt c5)))) (.of_flat0 rfl)) (DR.gp rfl rfl rfl rfl (p_lss rfl rfl) (DR.gp rfl rfl rfl rfl (p_pickT rfl rfl) (DR.p rfl rfl (p_pickF rfl rfl) (DR.nil 24 [] hst (by kernel_rfl) trivial ?_)))))
       have i7 := a6.front 1 rfl
       have i8 := i7.front 1 rfl
       exact ⟨(decide (rd (rw_ a1 a2.toNat) 0 < rd (rw_ a1 ((a2 - 1).toNat)) 0)), (some_inj i6), i8, Sub.k8 rfl rfl rfl rfl rfl rfl rfl rfl (Sub.k1 rfl (Sub.nil _))⟩
      ·have i9 := bif_f c2 e2
       refine DR.gn rfl rfl rfl rfl (DR.gn rfl rfl rfl rfl (DR.gn rfl rfl rfl rfl (DR.gn rfl rfl rfl rfl (DR.gn rfl rfl rfl rfl (DR.gn rfl rfl rfl rfl (DR.gn rfl rfl rfl rfl (DR.gn rfl rfl rfl rfl (DR.gn rfl rfl rfl rfl (DR.gn rfl rfl rfl rfl (DR.gn rfl rfl rfl rfl (DR.gp rfl rfl rfl rfl (p_pickF rfl rfl) (DR.p rfl rfl (p_pickF rfl rfl) (DR.nil 24 [] hst (by kernel_rfl) trivial ?_)))))))))))))
       have j0 := a6.front 1 rfl
       have j1 := j0.front 1 rfl
       exact ⟨false, (some_inj i9), j1, Sub.k8 rfl rfl rfl rfl rfl rfl rfl rfl (Sub.k1 rfl (Sub.nil _))⟩
    ·rintro t' p0 ⟨b8, rfl, b1, j2⟩
     refine AX.sub j2 (AX.cond rfl (fun c6 => ?_) (fun c6 => ?_))
     ·have j3 := bif_t c6 e0
      refine AX.sr (AO.a rfl rfl (AO.nil (AX.ret ?_)))
      obtain rfl := some_inj j3
      have j4 : _ = d6 := b6
      subst j4
      obtain rfl := some_inj d7
      exact ⟨.inr rfl, _, res1 rfl (rv_tmp rfl), rfl, (flatB_ok rfl), b1.hold⟩
     ·have j5 := bif_f c6 e0
      refine AX.skip (AX.seq (DR.startS [false, false, false, false, false, false, false, false, true, false, true, true, false, true] mix (by kernel_rfl) (fun hst => ?_)))
      refine DR.p rfl rfl (p_move rfl) (DR.p rfl rfl (p_move rfl) ?_)
      obtain ⟨c7, j6⟩ := chk_some j5
      refine DR.p rfl rfl (s_indexV (q := off a9 + 0) underlying27 sizeOf2 rfl ((TVw.at (b1.tview w_a1) a5).p (ints_get (lt_len rfl (inR_lt c7)))) rfl c7 (o1 _ _)) (DR.r rfl rfl (r_load rfl isAgg2) (one_read ((TVw.at (b1.tview w_a1) a5).get _ _ (ints_get (lt_len rfl (inR_lt c7)))) (.of_flat0 rfl)) (DR.p rfl rfl (p_move rfl) (DR.p rfl rfl (p_move rfl) ?_)))
      obtain ⟨c8, j7⟩ := chk_some j6
      refine DR.p rfl rfl (s_indexV (q := off a9 + 1) underlying27 sizeOf2 rfl ((TVw.at (b1.tview w_a1) a5).p (ints_get (lt_len rfl (inR_lt c8)))) rfl c8 (o1 _ _)) (DR.r rfl rfl (r_load rfl isAgg2) (one_read ((TVw.at (b1.tview w_a1) a5).get _ _ (ints_get (lt_len rfl (inR_lt c8)))) (.of_flat0 rfl)) ?_)
      obtain ⟨p1, e5, e6⟩ := b1.set (k := 0) (i := a7) rfl (AObj.map (ib (ment a3 (rd (rw_ a1 a2.toNat) 0))))
      refine DR.w rfl rfl (s_mapEntry (l := a3) underlying90 underlying2 zeroValue4 rfl rfl (b1.get (k := 0) rfl) e5) (set_le e5) (DR.p rfl rfl (p_extract rfl rfl) ?_)
      obtain ⟨p2, e7, e8⟩ := e6.set (k := 0) (i := a7) rfl (AObj.map (ib (mst (ment a3 (rd (rw_ a1 a2.toNat) 0)) (mi a3 (rd (rw_ a1 a2.toNat) 0)) true)))
      refine DR.s rfl (s_entryStore (i := mi a3 (rd (rw_ a1 a2.toNat) 0)) (l := ment a3 (rd (rw_ a1 a2.toNat) 0)) rfl rfl rfl (e6.get (k := 0) rfl) (mi_lt _ _) e7) (set_le e7) ?_
      obtain ⟨p3, e9, f0⟩ := e8.set (k := 0) (i := a7) rfl (AObj.map (ib (ment (mst (ment a3 (rd (rw_ a1 a2.toNat) 0)) (mi a3 (rd (rw_ a1 a2.toNat) 0)) true) (rd (rw_ a1 a2.toNat) 1))))
      refine DR.w rfl rfl (s_mapEntry (l := (mst (ment a3 (rd (rw_ a1 a2.toNat) 0)) (mi a3 (rd (rw_ a1 a2.toNat) 0)) true)) underlying90 underlying2 zeroValue4 rfl rfl (e8.get (k := 0) rfl) e9) (set_le e9) (DR.p rfl rfl (p_extract rfl rfl) ?_)
      obtain ⟨p4, f1, b0⟩ := f0.set (k := 0) (i := a7) rfl (AObj.map (ib (mst (ment (mst (ment a3 (rd (rw_ a1 a2.toNat) 0)) (mi a3 (rd (rw_ a1 a2.toNat) 0)) true) (rd (rw_ a1 a2.toNat) 1)) (mi (mst (ment a3 (rd (rw_ a1 a2.toNat) 0)) (mi a3 (rd (rw_ a1 a2.toNat) 0)) true) (rd (rw_ a1 a2.toNat) 1)) true)))
      refine DR.s rfl (s_entryStore (i := mi (mst (ment a3 (rd (rw_ a1 a2.toNat) 0)) (mi a3 (rd (rw_ a1 a2.toNat) 0)) true) (rd (rw_ a1 a2.toNat) 1)) (l := ment (mst (ment a3 (rd (rw_ a1 a2.toNat) 0)) (mi a3 (rd (rw_ a1 a2.toNat) 0)) true) (rd (rw_ a1 a2.toNat) 1)) rfl rfl rfl (f0.get (k := 0) rfl) (mi_lt _ _) f1) (set_le f1) (DR.nil 14 [] hst (by kernel_rfl) trivial (DR.startS [false, false, false, false, false, false, false, false, false, false, false, false, false, false, false, false, false, false, true, false, true, true, false, true] mix (by kernel_rfl) (fun hst => ?_)))
      refine DR.p rfl rfl (p_move rfl) (DR.p rfl rfl (p_move rfl) ?_)
      obtain ⟨c9, j8⟩ := chk_some j7
      refine DR.p rfl rfl (s_indexV (q := off a9 + 1) underlying27 sizeOf2 rfl ((TVw.at (b0.tview w_a1) a5).p (ints_get (lt_len rfl (inR_lt c9)))) rfl c9 (o1 _ _)) (DR.r rfl rfl (r_load rfl isAgg2) (one_read ((TVw.at (b0.tview w_a1) a5).get _ _ (ints_get (lt_len rfl (inR_lt c9)))) (.of_flat0 rfl)) (DR.p rfl rfl (p_move rfl) ?_))
      obtain ⟨d0, j9⟩ := chk_some j8
      refine DR.p rfl rfl (s_indexV (q := off a9 + 0) underlying27 sizeOf2 rfl ((TVw.at (b0.tview w_a1) a5).p (ints_get (lt_len rfl (inR_lt d0)))) rfl d0 (o1 _ _)) (DR.r rfl rfl (r_load rfl isAgg2) (one_read ((TVw.at (b0.tview w_a1) a5).get _ _ (ints_get (lt_len rfl (inR_lt d0)))) (.of_flat0 rfl)) ?_)
      obtain ⟨k0, k3⟩ := chk_some j9
      refine DR.p rfl rfl (p_subE rfl rfl k0) (DR.p rfl rfl (p_move rfl) (DR.p rfl rfl (p_move rfl) (DR.p rfl rfl (p_move rfl) ?_)))
      obtain ⟨d1, k5⟩ := chk_some k3
      refine DR.p rfl rfl (s_indexV (q := off a9 + 1) underlying27 sizeOf2 rfl ((TVw.at (b0.tview w_a1) a5).p (ints_get (lt_len rfl (inR_lt d1)))) rfl d1 (o1 _ _)) (DR.r rfl rfl (r_load rfl isAgg2) (one_read ((TVw.at (b0.tview w_a1) a5).get _ _ (ints_get (lt_len rfl (inR_lt d1)))) (.of_flat0 rfl)) ?_)
      obtain ⟨k6, k7⟩ := chk_some k5
      refine DR.p rfl rfl (p_subE rfl rfl k6) (DR.p rfl rfl (p_move rfl) ?_)
      obtain ⟨d2, k9⟩ := chk_some k7
      refine DR.p rfl rfl (s_indexV (q := off a9 + 0) underlying27 sizeOf2 rfl ((TVw.at (b0.tview w_a1) a5).p (ints_get (lt_len rfl (inR_lt d2)))) rfl d2 (o1 _ _)) (DR.r rfl rfl (r_load rfl isAgg2) (one_read ((TVw.at (b0.tview w_a1) a5).get _ _ (ints_get (lt_len rfl (inR_lt d2)))) (.of_flat0 rfl)) ?_)
      obtain ⟨l0, l1⟩ := chk_some k9
      refine DR.p rfl rfl (p_addE rfl rfl l0) ?_
      obtain ⟨p5, f2, f3⟩ := b0.set (k := 1) (i := a8) rfl (AObj.map (ib (ment a4 (rd (rw_ a1 a2.toNat) 1 - (rd (rw_ a1 a2.toNat) 0)))))
      refine DR.w rfl rfl (s_mapEntry (l := a4) underlying90 underlying2 zeroValue4 rfl rfl (b0.get (k := 1) rfl) f2) (set_le f2) (DR.p rfl rfl (p_extract rfl rfl) ?_)
      obtain ⟨p6, f4, f5⟩ := f3.set (k := 1) (i := a8) rfl (AObj.map (ib (mst (ment a4 (rd (rw_ a1 a2.toNat) 1 - (rd (rw_ a1 a2.toNat) 0))) (mi a4 (rd (rw_ a1 a2.toNat) 1 - (rd (rw_ a1 a2.toNat) 0))) true)))
      refine DR.s rfl (s_entryStore (i := mi a4 (rd (rw_ a1 a2.toNat) 1 - (rd (rw_ a1 a2.toNat) 0))) (l := ment a4 (rd (rw_ a1 a2.toNat) 1 - (rd (rw_ a1 a2.toNat) 0))) rfl rfl rfl (f3.get (k := 1) rfl) (mi_lt _ _) f4) (set_le f4) ?_
      obtain ⟨p7, f6, f7⟩ := f5.set (k := 1) (i := a8) rfl (AObj.map (ib (ment (mst (ment a4 (rd (rw_ a1 a2.toNat) 1 - (rd (rw_ a1 a2.toNat) 0))) (mi a4 (rd (rw_ a1 a2.toNat) 1 - (rd (rw_ a1 a2.toNat) 0))) true) (a0 - (rd (rw_ a1 a2.toNat) 1) + (rd (rw_ a1 a2.toNat) 0)))))
      refine DR.w rfl rfl (s_mapEntry (l := (mst (ment a4 (rd (rw_ a1 a2.toNat) 1 - (rd (rw_ a1 a2.toNat) 0))) (mi a4 (rd (rw_ a1 a2.toNat) 1 - (rd (rw_ a1 a2.toNat) 0))) true)) underlying90 underlying2 zeroValue4 rfl rfl (f5.get (k := 1) rfl) f6) (set_le f6) (DR.p rfl rfl (p_extract rfl rfl) ?_)
      obtain ⟨p8, f8, l2⟩ := f7.set (k := 1) (i := a8) rfl (AObj.map (ib (mst (ment (mst (ment a4 (rd (rw_ a1 a2.toNat) 1 - (rd (rw_ a1 a2.toNat) 0))) (mi a4 (rd (rw_ a1 a2.toNat) 1 - (rd (rw_ a1 a2.toNat) 0))) true) (a0 - (rd (rw_ a1 a2.toNat) 1) + (rd (rw_ a1 a2.toNat) 0))) (mi (mst (ment a4 (rd (rw_ a1 a2.toNat) 1 - (rd (rw_ a1 a2.toNat) 0))) (mi a4 (rd (rw_ a1 a2.toNat) 1 - (rd (rw_ a1 a2.toNat) 0))) true) (a0 - (rd (rw_ a1 a2.toNat) 1) + (rd (rw_ a1 a2.toNat) 0))) true)))
      refine DR.s rfl (s_entryStore (i := mi (mst (ment a4 (rd (rw_ a1 a2.toNat) 1 - (rd (rw_ a1 a2.toNat) 0))) (mi a4 (rd (rw_ a1 a2.toNat) 1 - (rd (rw_ a1 a2.toNat) 0))) true) (a0 - (rd (rw_ a1 a2.toNat) 1) + (rd (rw_ a1 a2.toNat) 0))) (l := ment (mst (ment a4 (rd (rw_ a1 a2.toNat) 1 - (rd (rw_ a1 a2.toNat) 0))) (mi a4 (rd (rw_ a1 a2.toNat) 1 - (rd (rw_ a1 a2.toNat) 0))) true) (a0 - (rd (rw_ a1 a2.toNat) 1) + (rd (rw_ a1 a2.toNat) 0))) rfl rfl rfl (f7.get (k := 1) rfl) (mi_lt _ _) f8) (set_le f8) (DR.nil 24 [] hst (by kernel_rfl) trivial (AX.region ?_))
      obtain ⟨l3, l4⟩ := chk_some l1
      refine AO.p rfl (p_addE rfl rfl l3) (AO.m rfl rfl (AO.nil ?_))
      obtain rfl := some_inj l4
      have l5 := l2.front 1 rfl
      have l6 := l5.front 1 rfl
      exact ⟨((mst (ment (mst (ment a3 (rd (rw_ a1 a2.toNat) 0)) (mi a3 (rd (rw_ a1 a2.toNat) 0)) true) (rd (rw_ a1 a2.toNat) 1)) (mi (mst (ment a3 (rd (rw_ a1 a2.toNat) 0)) (mi a3 (rd (rw_ a1 a2.toNat) 0)) true) (rd (rw_ a1 a2.toNat) 1)) true), (mst (ment (mst (ment a4 (rd (rw_ a1 a2.toNat) 1 - (rd (rw_ a1 a2.toNat) 0))) (mi a4 (rd (rw_ a1 a2.toNat) 1 - (rd (rw_ a1 a2.toNat) 0))) true) (a0 - (rd (rw_ a1 a2.toNat) 1) + (rd (rw_ a1 a2.toNat) 0))) (mi (mst (ment a4 (rd (rw_ a1 a2.toNat) 1 - (rd (rw_ a1 a2.toNat) 0))) (mi a4 (rd (rw_ a1 a2.toNat) 1 - (rd (rw_ a1 a2.toNat) 0))) true) (a0 - (rd (rw_ a1 a2.toNat) 1) + (rd (rw_ a1 a2.toNat) 0))) true), a2 + 1), b6, (mst (ment (mst (ment a3 (rd (rw_ a1 a2.toNat) 0)) (mi a3 (rd (rw_ a1 a2.toNat) 0)) true) (rd (rw_ a1 a2.toNat) 1)) (mi (mst (ment a3 (rd (rw_ a1 a2.toNat) 0)) (mi a3 (rd (rw_ a1 a2.toNat) 0)) true) (rd (rw_ a1 a2.toNat) 1)) true), (mst (ment (mst (ment a4 (rd (rw_ a1 a2.toNat) 1 - (rd (rw_ a1 a2.toNat) 0))) (mi a4 (rd (rw_ a1 a2.toNat) 1 - (rd (rw_ a1 a2.toNat) 0))) true) (a0 - (rd (rw_ a1 a2.toNat) 1) + (rd (rw_ a1 a2.toNat) 0))) (mi (mst (ment a4 (rd (rw_ a1 a2.toNat) 1 - (rd (rw_ a1 a2.toNat) 0))) (mi a4 (rd (rw_ a1 a2.toNat) 1 - (rd (rw_ a1 a2.toNat) 0))) true) (a0 - (rd (rw_ a1 a2.toNat) 1) + (rd (rw_ a1 a2.toNat) 0))) true), (a2 + 1), rfl, l6, Sub.k4 rfl rfl rfl rfl (Sub.k2 rfl rfl (Sub.k1 rfl (Sub.nil _)))⟩
   ·have l7 := bif_f b7 b5
    refine AX.exit ?_
    obtain rfl := some_inj l7
    have l8 := a6.front 1 rfl
    have l9 := l8.front 1 rfl
    exact ⟨a3, a4, b6, l9, Sub.k4 rfl rfl rfl rfl (Sub.nil _)⟩
 ·rintro t' m0 ⟨b4, b3, rfl, b2, m1⟩
  refine ⟨_, m1, ?_⟩
  obtain ⟨m2, m3, m4⟩ := bnd_some d7
  refine AX.cut (fun t' H' => ∃ (d3 : Bool), d3 = m2 ∧ St [] H H' [] ∧ Am.Sub [(4, .bool d3)] t') ?_ ?_
  ·skip
   refine AX.region (AO.m rfl rfl ?_)
   obtain ⟨m5, m6, m7⟩ := bnd_some m3
   refine AO.c rfl (o_call (vs := [.slice p_a1 a1.length c_a1]) rfl Tryz.call86 (W_impl_size_Sint64 fu m0 p_a1 c_a1 T_a1 a1 t_a1 (b2.view v_a1) (b2.tview w_a1) m5 m6)) ?_
   obtain ⟨m8, m9⟩ := chk_some m7
   refine AO.p rfl (p_mulE rfl rfl m8) (AO.m rfl rfl ?_)
   obtain ⟨n0, f9⟩ := chk_some m9
   refine AO.p rfl (p_subE rfl rfl n0) (AO.p rfl (p_eql rfl rfl) (AO.m rfl rfl (AO.cases (d := 83) rfl (fun d4 => ?_) (fun d4 => ?_))))
   ·have n1 := bif_t d4 f9
    refine AO.gp rfl rfl rfl (p_move rfl) (AO.gc rfl rfl rfl (m_lenMap (l := b4) underlying90 rfl (b2.get (k := 0) rfl)) (AO.gp rfl rfl rfl (p_move rfl) ?_))
    obtain ⟨n2, g0⟩ := chk_some n1
    refine AO.gp rfl rfl rfl (p_subE rfl rfl n2) (AO.gp rfl rfl rfl (p_eql rfl rfl) (AO.p rfl (p_pickT rfl rfl) (AO.m rfl rfl (AO.cases (d := 90) rfl (fun d5 => ?_) (fun d5 => ?_)))))
    ·have n3 := bif_t d5 g0
     refine AO.gp rfl rfl rfl (p_move rfl) (AO.gc rfl rfl rfl (m_lenMap (l := b3) underlying90 rfl (b2.get (k := 1) rfl)) (AO.gp rfl rfl rfl (p_move rfl) ?_))
     obtain ⟨n4, n5⟩ := chk_some n3
     refine AO.gp rfl rfl rfl (p_subE rfl rfl n4) (AO.gp rfl rfl rfl (p_eql rfl rfl) (AO.p rfl (p_pickT rfl rfl) (AO.a rfl rfl (AO.nil ?_))))
     have n6 := b2.keep 0
     exact ⟨(decide (((b3.length : Nat) : Int) = a0 - 1)), (some_inj n5), n6, Sub.k1 rfl (Sub.nil _)⟩
    ·have n7 := bif_f d5 g0
     refine AO.gn rfl rfl rfl (AO.gn rfl rfl rfl (AO.gn rfl rfl rfl (AO.gn rfl rfl rfl (AO.gn rfl rfl rfl (AO.p rfl (p_pickF rfl rfl) (AO.a rfl rfl (AO.nil ?_)))))))
     have n8 := b2.keep 0
     exact ⟨false, (some_inj n7), n8, Sub.k1 rfl (Sub.nil _)⟩
   ·have n9 := bif_f d4 f9
    refine AO.gn rfl rfl rfl (AO.gn rfl rfl rfl (AO.gn rfl rfl rfl (AO.gn rfl rfl rfl (AO.gn rfl rfl rfl (AO.p rfl (p_pickF rfl rfl) (AO.m rfl rfl (AO.gn rfl rfl rfl (AO.gn rfl rfl rfl (AO.gn rfl rfl rfl (AO.gn rfl rfl rfl (AO.gn rfl rfl rfl (AO.p rfl (p_pickF rfl rfl) (AO.a rfl rfl ?_)))))))))))))
    refine AO.nil ?_
    have o0 := b2.keep 0
    exact ⟨false, (some_inj n9), o0, Sub.k1 rfl (Sub.nil _)⟩
  ·rintro t' p9 ⟨d3, rfl, o2, o3⟩
   refine AX.sub o3 (AX.ret ?_)
   obtain rfl := some_inj m4
   exact ⟨.inr rfl, _, res1 rfl (rv_tmp rfl), rfl, (flatB_ok rfl), o2.hold⟩
set_option maxHeartbeats 4000000 in
theorem W_impl_starterCode (fu : Nat) (H : AHeap) (a0 : Int) (f_a1 : FuncId) (fs_a1 cs_a1 : Array Value) (a1 : Unit → Option Bool) (hc_a1 : ∀ args w, (callFunc f_a1 args).run Tryz.prog w = .ok (.enter f_a1 args) w) (hq_a1 : ∀ H', ExtG H H' → ∀ (b : Bool), a1 () = some b → ACall Tryz.prog f_a1 (fs_a1.toList ++ [] ++ cs_a1.toList) H' (.bool b) H') (p_a2 : Option Addr) (c_a2 : Nat) (T_a2 : Tb3) (a2 : List (List (List Int))) (t_a2 : trows3 T_a2 = a2) (v_a2 : Vw H p_a2 a2.length c_a2 (tcells3 T_a2)) (w_a2 : TVw3 H T_a2) (r0 : Int) (hd : D_impl_starterCode fu a0 a1 a2 = some r0) : ACall Tryz.prog 27 [.int .i64 a0, .func (.func f_a1) fs_a1 cs_a1, .slice p_a2 a2.length c_a2] H (.int .i64 r0) H := by
 refine ACall.bodyP (N := 39) [(0, .int .i64 a0), (1, .func (.func f_a1) fs_a1 cs_a1), (2, .slice p_a2 a2.length c_a2)] Tryz.func27 rfl rfl rfl rfl ?_
 unfold D_impl_starterCode at hd
 have S0 : St [] H H [] := St.nil H
 refine AX.sr (AO.a rfl rfl (AO.nil (AX.seq (AX.sr (AO.m rfl rfl ?_)))))
 obtain ⟨d8, d9, b8⟩ := bnd_some hd
 refine AO.c rfl (o_call (vs := [.int .i64 a0]) rfl Tryz.call47 (W_impl_isModulus fu H a0 d8 d9)) (AO.p rfl (p_not rfl) (AO.nil (AX.cond rfl (fun a7 => ?_) (fun a7 => ?_))))
 ·have e0 := bif_t a7 b8
  refine AX.sr (AO.a rfl rfl (AO.nil (AX.ret ?_)))
  obtain rfl := some_inj e0
  exact ⟨.inr rfl, _, res1 rfl (rv_tmp rfl), rfl, (flatB_ok rfl), S0.hold⟩
 ·have e1 := bif_f a7 b8
  refine AX.skip (AX.seq (AX.sr (AO.m rfl rfl (AO.p rfl (p_len_slice rfl underlying66) (AO.m rfl rfl (AO.nil ?_))))))
  obtain ⟨b9, e2, c0⟩ := bnd_some e1
  refine AX.cutS (fun t' H' => .inl () = b9 ∧ St [] H H' [] ∧ Am.Sub [(0, .int .i64 a0), (1, .func (.func f_a1) fs_a1 cs_a1), (2, .slice p_a2 a2.length c_a2)] t') ?_ ?_
  ·refine AX.block (AX.loopF (fun s' t' H' => ∃ (a3 : Int), a3 = s' ∧ St [] H H' [] ∧ Am.Sub [(0, .int .i64 a0), (1, .func (.func f_a1) fs_a1 cs_a1), (2, .slice p_a2 a2.length c_a2), (14, .slice p_a2 a2.length c_a2), (15, .int .i64 ((a2.length : Nat) : Int)), (16, .int .i64 a3)] t') e2 ?_ ?_)
   ·skip
    exact ⟨0, rfl, S0, Sub.k4 rfl rfl rfl rfl (Sub.k2 rfl rfl (Sub.nil _))⟩
   ·rintro h8 _ t' e3 ⟨a3, rfl, a5, e4⟩ h9 a8 a9
    refine AX.sub e4 ?_
    unfold D_impl_starterCode_s0 at a8
    refine AX.sr (AO.p rfl (p_lss rfl rfl) (AO.nil (AX.seq (AX.cond rfl (fun b0 => ?_) (fun b0 => ?_)))))
    ·have e5 := bif_t b0 a8
     refine AX.skip (AX.seq (AX.block (AX.sr ?_)))
     obtain ⟨c1, e6⟩ := chk_some e5
     obtain ⟨c2, c3, e7, c4, c5, c6⟩ := tget3 t_a2 (lt_len rfl (inR_lt c1))
     refine AO.p rfl (s_indexV (q := off p_a2 + a3.toNat) underlying66 sizeOf24 rfl ((a5.view v_a2).p c5) rfl c1 (o1 _ _)) (AO.c rfl (s_load isAgg24 rfl ((a5.view v_a2).get _ _ c5)) (AO.a rfl rfl (AO.nil (AX.sr (AO.m rfl rfl (AO.m rfl rfl ?_))))))
     obtain ⟨e8, e9, c7⟩ := bnd_some e6
     refine AO.c rfl (o_call (vs := [.int .i64 a0, .slice c2 ((rw3 a2 a3.toNat).length) c3]) rfl Tryz.call68 (W_impl_arePairs fu e3 a0 c2 c3 e7 (rw3 a2 a3.toNat) c6 (a5.view (w_a2.at1 c4 c6 rfl)) (a5.tview (w_a2.at2 c4)) e8 e9)) (AO.p rfl (p_not rfl) (AO.nil (AX.cond rfl (fun b1 => ?_) (fun b1 => ?_))))
     ·have f0 := bif_t b1 c7
      refine AX.sr (AO.a rfl rfl (AO.nil (AX.ret ?_)))
      obtain rfl := some_inj f0
      have f1 : _ = b9 := a9
      subst f1
      obtain rfl := some_inj c0
      exact ⟨.inr rfl, _, res1 rfl (rv_tmp rfl), rfl, (flatB_ok rfl), a5.hold⟩
     ·have f2 := bif_f b1 c7
      refine AX.skip (AX.region ?_)
      obtain ⟨f3, f4⟩ := chk_some f2
      refine AO.p rfl (p_addE rfl rfl f3) (AO.m rfl rfl (AO.nil ?_))
      obtain rfl := some_inj f4
      exact ⟨a3 + 1, a9, (a3 + 1), rfl, a5, Sub.k4 rfl rfl rfl rfl (Sub.k2 rfl rfl (Sub.nil _))⟩
    ·have f5 := bif_f b0 a8
     refine AX.exit ?_
     obtain rfl := some_inj f5
     exact ⟨a9, a5, Sub.k2 rfl rfl (Sub.k1 rfl (Sub.nil _))⟩
  ·rintro t' f6 ⟨rfl, b2, f7⟩
   refine ⟨_, f7, ?_⟩
   refine AX.seq (AX.sr (AO.m rfl rfl ?_))
   obtain ⟨f8, f9, c8⟩ := bnd_some c0
   refine AO.c rfl (o_callV (vs := []) rfl rfl hc_a1 (hq_a1 f6 b2.ext  f8 f9)) (AO.p rfl (p_not rfl) (AO.nil (AX.cond rfl (fun b3 => ?_) (fun b3 => ?_))))
   ·have g0 := bif_t b3 c8
    refine AX.sr (AO.a rfl rfl (AO.nil (AX.ret ?_)))
    obtain rfl := some_inj g0
    exact ⟨.inr rfl, _, res1 rfl (rv_tmp rfl), rfl, (flatB_ok rfl), b2.hold⟩
   ·have g1 := bif_f b3 c8
    refine AX.skip (AX.seq (AX.sr (AO.m rfl rfl (AO.p rfl (p_len_slice rfl underlying66) (AO.m rfl rfl (AO.nil ?_))))))
    obtain ⟨c9, g2, d0⟩ := bnd_some g1
    refine AX.cutS (fun t' H' => .inl () = c9 ∧ St [] H H' [] ∧ Am.Sub [] t') ?_ ?_
    ·refine AX.block (AX.loopF (fun s' t' H' => ∃ (a4 : Int), a4 = s' ∧ St [] H H' [] ∧ Am.Sub [(0, .int .i64 a0), (28, .slice p_a2 a2.length c_a2), (29, .int .i64 ((a2.length : Nat) : Int)), (30, .int .i64 a4)] t') g2 ?_ ?_)
     ·skip
      exact ⟨0, rfl, b2, Sub.k4 rfl rfl rfl rfl (Sub.nil _)⟩
     ·rintro i0 _ t' g3 ⟨a4, rfl, a6, g4⟩ i1 b4 b5
      refine AX.sub g4 ?_
      unfold D_impl_starterCode_s1 at b4
      refine AX.sr (AO.p rfl (p_lss rfl rfl) (AO.nil (AX.seq (AX.cond rfl (fun b6 => ?_) (fun b6 => ?_)))))
      ·have g5 := bif_t b6 b4
       refine AX.skip (AX.seq (AX.block (AX.sr ?_)))
       obtain ⟨d1, g6⟩ := chk_some g5
       obtain ⟨d2, d3, g7, d4, d5, d6⟩ := tget3 t_a2 (lt_len rfl (inR_lt d1))
       refine AO.p rfl (s_indexV (q := off p_a2 + a4.toNat) underlying66 sizeOf24 rfl ((a6.view v_a2).p d5) rfl d1 (o1 _ _)) (AO.c rfl (s_load isAgg24 rfl ((a6.view v_a2).get _ _ d5)) (AO.a rfl rfl (AO.nil (AX.sr (AO.m rfl rfl (AO.m rfl rfl ?_))))))
       obtain ⟨g8, g9, d7⟩ := bnd_some g6
       refine AO.c rfl (o_call (vs := [.int .i64 a0, .slice d2 ((rw3 a2 a4.toNat).length) d3]) rfl Tryz.call69 (W_impl_isStarter fu g3 a0 d2 d3 g7 (rw3 a2 a4.toNat) d6 (a6.view (w_a2.at1 d4 d6 rfl)) (a6.tview (w_a2.at2 d4)) g8 g9)) (AO.p rfl (p_not rfl) (AO.nil (AX.cond rfl (fun b7 => ?_) (fun b7 => ?_))))
       ·have h0 := bif_t b7 d7
        refine AX.sr (AO.a rfl rfl (AO.nil (AX.ret ?_)))
        obtain rfl := some_inj h0
        have h1 : _ = c9 := b5
        subst h1
        obtain rfl := some_inj d0
        exact ⟨.inr rfl, _, res1 rfl (rv_tmp rfl), rfl, (flatB_ok rfl), a6.hold⟩
       ·have h2 := bif_f b7 d7
        refine AX.skip (AX.region ?_)
        obtain ⟨h3, h4⟩ := chk_some h2
        refine AO.p rfl (p_addE rfl rfl h3) (AO.m rfl rfl (AO.nil ?_))
        obtain rfl := some_inj h4
        exact ⟨a4 + 1, b5, (a4 + 1), rfl, a6, Sub.k4 rfl rfl rfl rfl (Sub.nil _)⟩
      ·have h5 := bif_f b6 b4
       refine AX.exit ?_
       obtain rfl := some_inj h5
       exact ⟨b5, a6, Sub.nil _⟩
    ·rintro t' i2 ⟨rfl, h6, h7⟩
     refine ⟨_, h7, ?_⟩
     refine AX.sr (AO.a rfl rfl (AO.nil (AX.ret ?_)))
     obtain rfl := some_inj d0
     exact ⟨.inr rfl, _, res1 rfl (rv_tmp rfl), rfl, (flatB_ok rfl), h6.hold⟩
set_option maxHeartbeats 4000000 in
theorem W_spec_l03Lists (fu : Nat) (H : AHeap) (a0 : Int) (p_a1 : Option Addr) (c_a1 : Nat) (T_a1 : Tb) (a1 : List (List Int)) (t_a1 : trows T_a1 = a1) (v_a1 : Vw H p_a1 a1.length c_a1 (tcells T_a1)) (w_a1 : TVw H T_a1) (r0 : Bool) (hd : D_spec_l03Lists fu a0 a1 = some r0) : ACall Tryz.prog 62 [.int .i64 a0, .slice p_a1 a1.length c_a1] H (.bool r0) H := by
 refine ACall.bodyP (N := 57) [(0, .int .i64 a0), (1, .slice p_a1 a1.length c_a1)] Tryz.func62 rfl rfl rfl rfl ?_
 unfold D_spec_l03Lists at hd
 have S0 : St [] H H [] := St.nil H
 refine AX.sr (AO.a rfl rfl (AO.nil (AX.seq (AX.sr (AO.a rfl rfl (AO.nil ?_))))))
 obtain ⟨c0, d8, c1⟩ := bnd_some hd
 refine AX.cutS (fun t' H' => .inl () = c0 ∧ St [] H H' [] ∧ Am.Sub [] t') ?_ ?_
 ·refine AX.block (AX.loopF (fun s' t' H' => ∃ (a3 : Int), a3 = s' ∧ St [] H H' [] ∧ Am.Sub [(0, .int .i64 a0), (1, .slice p_a1 a1.length c_a1), (5, .int .i64 a3)] t') d8 ?_ ?_)
  ·skip
   exact ⟨0, rfl, S0, Sub.k2 rfl rfl (Sub.k1 rfl (Sub.nil _))⟩
  ·rintro h9 _ t' c2 ⟨a3, rfl, a2, d9⟩ i0 a4 a5
   refine AX.sub d9 ?_
   unfold D_spec_l03Lists_s0 at a4
   refine AX.seq (AX.sr (AO.m rfl rfl (AO.m rfl rfl (AO.p rfl (p_len_slice rfl underlying24) (AO.p rfl (p_lss rfl rfl) (AO.nil (AX.cond rfl (fun a6 => ?_) (fun a6 => ?_))))))))
   ·have e0 := bif_t a6 a4
    refine AX.skip (AX.seq (AX.block ?_))
    obtain ⟨e1, e2, c3⟩ := bnd_some e0
    refine AX.cut (fun t' H' => ∃ (a7 : Bool), a7 = e1 ∧ St [] H H' [] ∧ Am.Sub [(0, .int .i64 a0), (1, .slice p_a1 a1.length c_a1), (5, .int .i64 a3), (56, .bool a7)] t') ?_ ?_
    ·skip
     refine DR.startS [false, false, false, false, false, false, false, false, false, false, false, false, false, false, false, true, false, false, false, false, false, false, false, false, false, false, false, true, false, false, false, false, false, false, false, false, false, false, false, false, false, false, false, false, false] mix (by kernel_rfl) (fun hst => ?_)
     refine DR.p rfl rfl (p_move rfl) (DR.p rfl rfl (p_move rfl) ?_)
     obtain ⟨c4, c5⟩ := chk_some e2
     obtain ⟨i1, i2, e3, c6⟩ := tget t_a1 (lt_len rfl (inR_lt c4))
     refine DR.p rfl rfl (s_indexV (q := off p_a1 + a3.toNat) underlying24 sizeOf27 rfl ((a2.view v_a1).p c6) rfl c4 (o1 _ _)) (DR.r rfl rfl (r_load rfl isAgg27) (one_read ((a2.view v_a1).get _ _ c6) (TVw.at (a2.tview w_a1) e3).inn.bel) (DR.p rfl rfl (p_len_slice rfl underlying27) (DR.p rfl rfl (p_neq rfl rfl) (DR.pb rfl rfl (p_move rfl) (fun a8 => ?_) (fun a8 => ?_)))))
     ·have e4 := bif_t a8 c5
      refine DR.gn rfl rfl rfl rfl (DR.gn rfl rfl rfl rfl (DR.gn rfl rfl rfl rfl (DR.gn rfl rfl rfl rfl (DR.gn rfl rfl rfl rfl (DR.gn rfl rfl rfl rfl (DR.gn rfl rfl rfl rfl (DR.gn rfl rfl rfl rfl (DR.gn rfl rfl rfl rfl (DR.gn rfl rfl rfl rfl (DR.p rfl rfl (p_pickT rfl rfl) (DR.p rfl rfl (p_move rfl) (DR.gn rfl rfl rfl rfl (DR.gn rfl rfl rfl rfl ?_)))))))))))))
      refine DR.gn rfl rfl rfl rfl (DR.gn rfl rfl rfl rfl (DR.gn rfl rfl rfl rfl (DR.gn rfl rfl rfl rfl (DR.gn rfl rfl rfl rfl (DR.gn rfl rfl rfl rfl (DR.gn rfl rfl rfl rfl (DR.gn rfl rfl rfl rfl (DR.p rfl rfl (p_pickT rfl rfl) (DR.p rfl rfl (p_move rfl) (DR.gn rfl rfl rfl rfl (DR.gn rfl rfl rfl rfl (DR.gn rfl rfl rfl rfl (DR.gn rfl rfl rfl rfl ?_)))))))))))))
      refine DR.gn rfl rfl rfl rfl (DR.gn rfl rfl rfl rfl (DR.gn rfl rfl rfl rfl (DR.gn rfl rfl rfl rfl (DR.gn rfl rfl rfl rfl (DR.gn rfl rfl rfl rfl (DR.gn rfl rfl rfl rfl (DR.gn rfl rfl rfl rfl (DR.gn rfl rfl rfl rfl (DR.p rfl rfl (p_pickT rfl rfl) (DR.nil 45 [] hst (by kernel_rfl) trivial ?_))))))))))
      exact ⟨true, (some_inj e4), a2, Sub.k4 rfl rfl rfl rfl (Sub.nil _)⟩
     ·have e5 := bif_f a8 c5
      refine DR.gp rfl rfl rfl rfl (p_move rfl) (DR.gp rfl rfl rfl rfl (p_move rfl) ?_)
      obtain ⟨c7, e6⟩ := chk_some e5
      obtain ⟨e7, i3, a9, c8⟩ := tget t_a1 (lt_len rfl (inR_lt c7))
      refine DR.gp rfl rfl rfl rfl (s_indexV (q := off p_a1 + a3.toNat) underlying24 sizeOf27 rfl ((a2.view v_a1).p c8) rfl c7 (o1 _ _)) (DR.gr rfl rfl rfl rfl (r_load rfl isAgg27) (one_read ((a2.view v_a1).get _ _ c8) (TVw.at (a2.tview w_a1) a9).inn.bel) ?_)
      obtain ⟨b0, e8⟩ := chk_some e6
      refine DR.gp rfl rfl rfl rfl (s_indexV (q := off e7 + 0) underlying27 sizeOf2 rfl ((TVw.at (a2.tview w_a1) a9).p (ints_get (lt_len rfl (inR_lt b0)))) rfl b0 (o1 _ _)) (DR.gr rfl rfl rfl rfl (r_load rfl isAgg2) (one_read ((TVw.at (a2.tview w_a1) a9).get _ _ (ints_get (lt_len rfl (inR_lt b0)))) (.of_flat0 rfl)) (DR.gp rfl rfl rfl rfl (p_move rfl) ?_))
      obtain ⟨e9, f0⟩ := chk_some e8
      refine DR.gp rfl rfl rfl rfl (p_subE rfl rfl e9) ?_
      obtain ⟨f1, f2, c9⟩ := bnd_some f0
      refine DR.gw rfl rfl rfl rfl (o_call (vs := [.int .i64 (rd (rw_ a1 a3.toNat) 0), .int .i64 1, .int .i64 (a0 - 1)]) rfl Tryz.call56 (W_spec_l01In fu c2 (rd (rw_ a1 a3.toNat) 0) 1 (a0 - 1) f1 f2)) (Nat.le_refl _) (DR.gp rfl rfl rfl rfl (p_not rfl) (DR.p rfl rfl (p_pickF rfl rfl) (DR.pb rfl rfl (p_move rfl) (fun b1 => ?_) (fun b1 => ?_))))
      ·have f3 := bif_t b1 c9
       refine DR.gn rfl rfl rfl rfl (DR.gn rfl rfl rfl rfl (DR.gn rfl rfl rfl rfl (DR.gn rfl rfl rfl rfl (DR.gn rfl rfl rfl rfl (DR.gn rfl rfl rfl rfl (DR.gn rfl rfl rfl rfl (DR.gn rfl rfl rfl rfl (DR.gn rfl rfl rfl rfl (DR.gn rfl rfl rfl rfl (DR.p rfl rfl (p_pickT rfl rfl) (DR.p rfl rfl (p_move rfl) (DR.gn rfl rfl rfl rfl (DR.gn rfl rfl rfl rfl ?_)))))))))))))
       refine DR.gn rfl rfl rfl rfl (DR.gn rfl rfl rfl rfl (DR.gn rfl rfl rfl rfl (DR.gn rfl rfl rfl rfl (DR.gn rfl rfl rfl rfl (DR.gn rfl rfl rfl rfl (DR.gn rfl rfl rfl rfl (DR.gn rfl rfl rfl rfl (DR.gn rfl rfl rfl rfl (DR.gn rfl rfl rfl rfl (DR.gn rfl rfl rfl rfl (DR.p rfl rfl (p_pickT rfl rfl) (DR.nil 45 [] hst (by kernel_rfl) trivial ?_))))))))))))
       exact ⟨true, (some_inj f3), a2, Sub.k4 rfl rfl rfl rfl (Sub.nil _)⟩
      ·have f4 := bif_f b1 c9
       refine DR.gp rfl rfl rfl rfl (p_move rfl) (DR.gp rfl rfl rfl rfl (p_move rfl) ?_)
       obtain ⟨d0, f5⟩ := chk_some f4
       obtain ⟨f6, i4, b2, d1⟩ := tget t_a1 (lt_len rfl (inR_lt d0))
       refine DR.gp rfl rfl rfl rfl (s_indexV (q := off p_a1 + a3.toNat) underlying24 sizeOf27 rfl ((a2.view v_a1).p d1) rfl d0 (o1 _ _)) (DR.gr rfl rfl rfl rfl (r_load rfl isAgg27) (one_read ((a2.view v_a1).get _ _ d1) (TVw.at (a2.tview w_a1) b2).inn.bel) ?_)
       obtain ⟨b3, f7⟩ := chk_some f5
       refine DR.gp rfl rfl rfl rfl (s_indexV (q := off f6 + 1) underlying27 sizeOf2 rfl ((TVw.at (a2.tview w_a1) b2).p (ints_get (lt_len rfl (inR_lt b3)))) rfl b3 (o1 _ _)) (DR.gr rfl rfl rfl rfl (r_load rfl isAgg2) (one_read ((TVw.at (a2.tview w_a1) b2).get _ _ (ints_get (lt_len rfl (inR_lt b3)))) (.of_flat0 rfl)) (DR.gp rfl rfl rfl rfl (p_move rfl) ?_))
       obtain ⟨f8, f9⟩ := chk_some f7
       refine DR.gp rfl rfl rfl rfl (p_subE rfl rfl f8) ?_
       obtain ⟨g0, g1, d2⟩ := bnd_some f9
       refine DR.gw rfl rfl rfl rfl (o_call (vs := [.int .i64 (rd (rw_ a1 a3.toNat) 1), .int .i64 1, .int .i64 (a0 - 1)]) rfl Tryz.call56 (W_spec_l01In fu c2 (rd (rw_ a1 a3.toNat) 1) 1 (a0 - 1) g0 g1)) (Nat.le_refl _) (DR.gp rfl rfl rfl rfl (p_not rfl) (DR.p rfl rfl (p_pickF rfl rfl) (DR.pb rfl rfl (p_move rfl) (fun b4 => ?_) (fun b4 => ?_))))
       ·have g2 := bif_t b4 d2
        refine DR.gn rfl rfl rfl rfl (DR.gn rfl rfl rfl rfl (DR.gn rfl rfl rfl rfl (DR.gn rfl rfl rfl rfl (DR.gn rfl rfl rfl rfl (DR.gn rfl rfl rfl rfl (DR.gn rfl rfl rfl rfl (DR.gn rfl rfl rfl rfl (DR.gn rfl rfl rfl rfl (DR.gn rfl rfl rfl rfl (DR.gn rfl rfl rfl rfl (DR.gn rfl rfl rfl rfl (DR.gn rfl rfl rfl rfl (DR.p rfl rfl (p_pickT rfl rfl) ?_)))))))))))))
        refine DR.nil 45 [] hst (by kernel_rfl) trivial ?_
        exact ⟨true, (some_inj g2), a2, Sub.k4 rfl rfl rfl rfl (Sub.nil _)⟩
       ·have g3 := bif_f b4 d2
        refine DR.gp rfl rfl rfl rfl (p_move rfl) (DR.gp rfl rfl rfl rfl (p_move rfl) ?_)
        obtain ⟨d3, g4⟩ := chk_some g3
        obtain ⟨g5, i5, b5, d4⟩ := tget t_a1 (lt_len rfl (inR_lt d3))
        refine DR.gp rfl rfl rfl rfl (s_indexV (q := off p_a1 + a3.toNat) underlying24 sizeOf27 rfl ((a2.view v_a1).p d4) rfl d3 (o1 _ _)) (DR.gr rfl rfl rfl rfl (r_load rfl isAgg27) (one_read ((a2.view v_a1).get _ _ d4) (TVw.at (a2.tview w_a1) b5).inn.bel) ?_)
        obtain ⟨b6, g6⟩ := chk_some g4
        refine DR.gp rfl rfl rfl rfl (s_indexV (q := off g5 + 0) underlying27 sizeOf2 rfl ((TVw.at (a2.tview w_a1) b5).p (ints_get (lt_len rfl (inR_lt b6)))) rfl b6 (o1 _ _)) (DR.gr rfl rfl rfl rfl (r_load rfl isAgg2) (one_read ((TVw.at (a2.tview w_a1) b5).get _ _ (ints_get (lt_len rfl (inR_lt b6)))) (.of_flat0 rfl)) (DR.gp rfl rfl rfl rfl (p_move rfl) (DR.gp rfl rfl rfl rfl (p_move rfl) ?_)))
        obtain ⟨d5, g7⟩ := chk_some g6
        obtain ⟨g8, i6, b7, d6⟩ := tget t_a1 (lt_len rfl (inR_lt d5))
        refine DR.gp rfl rfl rfl rfl (s_indexV (q := off p_a1 + a3.toNat) underlying24 sizeOf27 rfl ((a2.view v_a1).p d6) rfl d5 (o1 _ _)) (DR.gr rfl rfl rfl rfl (r_load rfl isAgg27) (one_read ((a2.view v_a1).get _ _ d6) (TVw.at (a2.tview w_a1) b7).inn.bel) ?_)
        obtain ⟨b8, g9⟩ := chk_some g7
        refine DR.gp rfl rfl rfl rfl (s_indexV (q := off g8 + 1) underlying27 sizeOf2 rfl ((TVw.at (a2.tview w_a1) b7).p (ints_get (lt_len rfl (inR_lt b8)))) rfl b8 (o1 _ _)) (DR.gr rfl rfl rfl rfl (r_load rfl isAgg2) (one_read ((TVw.at (a2.tview w_a1) b7).get _ _ (ints_get (lt_len rfl (inR_lt b8)))) (.of_flat0 rfl)) (DR.gp rfl rfl rfl rfl (p_eql rfl rfl) (DR.p rfl rfl (p_pickF rfl rfl) (DR.nil 45 [] hst (by kernel_rfl) trivial ?_))))
        exact ⟨(decide (rd (rw_ a1 a3.toNat) 0 = rd (rw_ a1 a3.toNat) 1)), (some_inj g9), a2, Sub.k4 rfl rfl rfl rfl (Sub.nil _)⟩
    ·rintro t' i7 ⟨a7, rfl, d7, h0⟩
     refine AX.sub h0 (AX.cond rfl (fun b9 => ?_) (fun b9 => ?_))
     ·have h1 := bif_t b9 c3
      refine AX.sr (AO.a rfl rfl (AO.nil (AX.ret ?_)))
      obtain rfl := some_inj h1
      have h2 : _ = c0 := a5
      subst h2
      obtain rfl := some_inj c1
      exact ⟨.inr rfl, _, res1 rfl (rv_tmp rfl), rfl, (flatB_ok rfl), d7.hold⟩
     ·have h3 := bif_f b9 c3
      refine AX.skip (AX.region (AO.m rfl rfl ?_))
      obtain ⟨h4, h5⟩ := chk_some h3
      refine AO.p rfl (p_addE rfl rfl h4) (AO.a rfl rfl (AO.nil ?_))
      obtain rfl := some_inj h5
      exact ⟨a3 + 1, a5, (a3 + 1), rfl, d7, Sub.k2 rfl rfl (Sub.k1 rfl (Sub.nil _))⟩
   ·have h6 := bif_f a6 a4
    refine AX.exit ?_
    obtain rfl := some_inj h6
    exact ⟨a5, a2, Sub.nil _⟩
 ·rintro t' i8 ⟨rfl, h7, h8⟩
  refine ⟨_, h8, ?_⟩
  refine AX.sr (AO.a rfl rfl (AO.nil (AX.ret ?_)))
  obtain rfl := some_inj c1
  exact ⟨.inr rfl, _, res1 rfl (rv_tmp rfl), rfl, (flatB_ok rfl), h7.hold⟩
set_option maxHeartbeats 4000000 in
theorem W_spec_l03Is (fu : Nat) (H : AHeap) (a0 : Int) (p_a1 : Option Addr) (c_a1 : Nat) (T_a1 : Tb) (a1 : List (List Int)) (t_a1 : trows T_a1 = a1) (v_a1 : Vw H p_a1 a1.length c_a1 (tcells T_a1)) (w_a1 : TVw H T_a1) (r0 : Bool) (hd : D_spec_l03Is fu a0 a1 = some r0) : ACall Tryz.prog 63 [.int .i64 a0, .slice p_a1 a1.length c_a1] H (.bool r0) H := by
 refine ACall.bodyP (N := 94) [(0, .int .i64 a0), (1, .slice p_a1 a1.length c_a1)] Tryz.func63 rfl rfl rfl rfl ?_
 unfold D_spec_l03Is at hd
 have S0 : St [] H H [] := St.nil H
 refine AX.sr (AO.a rfl rfl (AO.nil (AX.seq (AX.sr (AO.m rfl rfl (AO.p rfl (p_len_slice rfl underlying24) (AO.m rfl rfl ?_)))))))
 obtain ⟨g1, g2⟩ := chk_some hd
 refine AO.p rfl (p_subE rfl rfl g1) ?_
 obtain ⟨g3, d0⟩ := chk_some g2
 refine AO.p rfl (p_quoE rfl rfl g3) (AO.p rfl (p_neq rfl rfl) (AO.nil (AX.cond rfl (fun b1 => ?_) (fun b1 => ?_))))
 ·have g4 := bif_t b1 d0
  refine AX.sr (AO.a rfl rfl (AO.nil (AX.ret ?_)))
  obtain rfl := some_inj g4
  exact ⟨.inr rfl, _, res1 rfl (rv_tmp rfl), rfl, (flatB_ok rfl), S0.hold⟩
 ·have g5 := bif_f b1 d0
  refine AX.skip (AX.seq (DR.startS [false, false, false, false, false, false] mix (by kernel_rfl) (fun hst => ?_)))
  refine DR.p rfl rfl (p_move rfl) ?_
  obtain ⟨g6, g7⟩ := chk_some g5
  obtain ⟨p5, a8, g8, g9, h0⟩ := S0.new (AObj.row false (bls (List.replicate a0.toNat false)))
  refine DR.a rfl rfl g8 g9 (a_make1 (v := .bool false) (by_ := 1) underlying76 typeInfo4 sizeOf4 zeroValue4 rfl rfl rfl rfl rfl rfl g6 bls_rep) (DR.p rfl rfl (p_move rfl) ?_)
  obtain ⟨h1, h2⟩ := chk_some g7
  obtain ⟨p6, a9, h3, h4, h5⟩ := h0.new (AObj.row false (bls (List.replicate a0.toNat false)))
  refine DR.a rfl rfl h3 h4 (a_make1 (v := .bool false) (by_ := 1) underlying76 typeInfo4 sizeOf4 zeroValue4 rfl rfl rfl rfl rfl rfl h1 bls_rep) (DR.p rfl rfl (p_assign rfl) (DR.p rfl rfl (p_assign rfl) (DR.nil 6 [] hst (by kernel_rfl) trivial (AX.seq (AX.sr (AO.a rfl rfl (AO.nil ?_)))))))
  obtain ⟨d1, h6, d2⟩ := bnd_some h2
  refine AX.cutS (fun t' H' => .inl () = d1 ∧ St [] H H' [] ∧ Am.Sub [] t') ?_ ?_
  ·refine AX.block (AX.loopF (fun s' t' H' => ∃ (a6 : List Bool) (a5 : List Bool) (a3 : Int), (a6, a5, a3) = s' ∧ St [] H H' [[(a8, AObj.row false (bls a6))], [(a9, AObj.row false (bls a5))]] ∧ a6.length = a0.toNat ∧ a5.length = a0.toNat ∧ Am.Sub [(0, .int .i64 a0), (1, .slice p_a1 a1.length c_a1), (5, .slice (some (Addr.mk a8 0 none)) a0.toNat a0.toNat), (6, .slice (some (Addr.mk a9 0 none)) a0.toNat a0.toNat), (7, .int .i64 a3)] t') h6 ?_ ?_)
   ·skip
    have h7 := h5.front 0 rfl
    have h8 := h7.front 1 rfl
    exact ⟨(List.replicate a0.toNat false), (List.replicate a0.toNat false), 0, rfl, h8, len_rep, len_rep, Sub.k4 rfl rfl rfl rfl (Sub.k1 rfl (Sub.nil _))⟩
   ·rintro p7 _ t' h9 ⟨a6, a5, a3, rfl, a2, a7, b0, i0⟩ p8 b2 b3
    refine AX.sub i0 ?_
    unfold D_spec_l03Is_s0 at b2
    refine AX.seq (AX.sr (AO.m rfl rfl (AO.m rfl rfl (AO.p rfl (p_len_slice rfl underlying24) (AO.p rfl (p_lss rfl rfl) (AO.nil (AX.cond rfl (fun b4 => ?_) (fun b4 => ?_))))))))
    ·have i1 := bif_t b4 b2
     refine AX.skip (AX.seq (AX.block (AX.seq (DR.startS [false, false, false, false, false, false, false, false, false, false, false, false, false, false] mix (by kernel_rfl) (fun hst => ?_)))))
     refine DR.p rfl rfl (p_move rfl) (DR.p rfl rfl (p_move rfl) ?_)
     obtain ⟨d3, i2⟩ := chk_some i1
     obtain ⟨i3, p9, b5, d4⟩ := tget t_a1 (lt_len rfl (inR_lt d3))
     refine DR.p rfl rfl (s_indexV (q := off p_a1 + a3.toNat) underlying24 sizeOf27 rfl ((a2.view v_a1).p d4) rfl d3 (o1 _ _)) (DR.r rfl rfl (r_load rfl isAgg27) (one_read ((a2.view v_a1).get _ _ d4) (TVw.at (a2.tview w_a1) b5).inn.bel) ?_)
     obtain ⟨b6, i4⟩ := chk_some i2
     refine DR.p rfl rfl (s_indexV (q := off i3 + 0) underlying27 sizeOf2 rfl ((TVw.at (a2.tview w_a1) b5).p (ints_get (lt_len rfl (inR_lt b6)))) rfl b6 (o1 _ _)) (DR.r rfl rfl (r_load rfl isAgg2) (one_read ((TVw.at (a2.tview w_a1) b5).get _ _ (ints_get (lt_len rfl (inR_lt b6)))) (.of_flat0 rfl)) (DR.p rfl rfl (p_move rfl) (DR.p rfl rfl (p_move rfl) ?_)))
     obtain ⟨d5, i5⟩ := chk_some i4
     obtain ⟨i6, q0, b7, d6⟩ := tget t_a1 (lt_len rfl (inR_lt d5))
     refine DR.p rfl rfl (s_indexV (q := off p_a1 + a3.toNat) underlying24 sizeOf27 rfl ((a2.view v_a1).p d6) rfl d5 (o1 _ _)) (DR.r rfl rfl (r_load rfl isAgg27) (one_read ((a2.view v_a1).get _ _ d6) (TVw.at (a2.tview w_a1) b7).inn.bel) ?_)
     obtain ⟨b8, i7⟩ := chk_some i5
     refine DR.p rfl rfl (s_indexV (q := off i6 + 1) underlying27 sizeOf2 rfl ((TVw.at (a2.tview w_a1) b7).p (ints_get (lt_len rfl (inR_lt b8)))) rfl b8 (o1 _ _)) (DR.r rfl rfl (r_load rfl isAgg2) (one_read ((TVw.at (a2.tview w_a1) b7).get _ _ (ints_get (lt_len rfl (inR_lt b8)))) (.of_flat0 rfl)) (DR.p rfl rfl (p_assign rfl) (DR.p rfl rfl (p_assign rfl) (DR.nil 14 [] hst (by kernel_rfl) trivial (AX.sr (AO.m rfl rfl (AO.m rfl rfl ?_)))))))
     obtain ⟨i8, i9⟩ := chk_some i7
     refine AO.p rfl (p_subE rfl rfl i8) (AO.m rfl rfl ?_)
     obtain ⟨a4, j0, j1⟩ := bnd_some i9
     refine AO.c rfl (o_call (vs := [.int .i64 (rd (rw_ a1 a3.toNat) 1 - (rd (rw_ a1 a3.toNat) 0)), .int .i64 a0]) rfl Tryz.call80 (W_spec_l03Mod fu h9 (rd (rw_ a1 a3.toNat) 1 - (rd (rw_ a1 a3.toNat) 0)) a0 a4 j0)) (AO.a rfl rfl (AO.nil (AX.seq ?_)))
     obtain ⟨j2, d7, d8⟩ := bnd_some j1
     refine AX.cut (fun t' H' => ∃ (b9 : Bool), b9 = j2 ∧ St [] H H' [[(a8, AObj.row false (bls a6))], [(a9, AObj.row false (bls a5))]] ∧ Am.Sub [(0, .int .i64 a0), (1, .slice p_a1 a1.length c_a1), (5, .slice (some (Addr.mk a8 0 none)) a0.toNat a0.toNat), (6, .slice (some (Addr.mk a9 0 none)) a0.toNat a0.toNat), (7, .int .i64 a3), (8, .int .i64 (rd (rw_ a1 a3.toNat) 0)), (9, .int .i64 (rd (rw_ a1 a3.toNat) 1)), (10, .int .i64 a4), (79, .bool b9)] t') ?_ ?_
     ·skip
      refine AX.region (AO.m rfl rfl (AO.m rfl rfl (AO.p rfl (p_gtr rfl rfl) (AO.m rfl rfl (AO.cases (d := 47) rfl (fun c0 => ?_) (fun c0 => ?_))))))
      ·have j3 := bif_t c0 d7
       refine AO.gn rfl rfl rfl (AO.gn rfl rfl rfl (AO.gn rfl rfl rfl (AO.gu rfl rfl rfl (AO.gu rfl rfl rfl (AO.gu rfl rfl rfl (AO.gu rfl rfl rfl (AO.gu rfl rfl rfl (AO.gu rfl rfl rfl (AO.gu rfl rfl rfl (AO.gu rfl rfl rfl (AO.gu rfl rfl rfl (AO.gn rfl rfl rfl (AO.p rfl (p_pickT rfl rfl) ?_)))))))))))))
       refine AO.m rfl rfl (AO.gn rfl rfl rfl (AO.gn rfl rfl rfl (AO.gn rfl rfl rfl (AO.gn rfl rfl rfl (AO.p rfl (p_pickT rfl rfl) (AO.m rfl rfl (AO.gn rfl rfl rfl (AO.gn rfl rfl rfl (AO.gn rfl rfl rfl (AO.gn rfl rfl rfl (AO.p rfl (p_pickT rfl rfl) (AO.m rfl rfl (AO.gn rfl rfl rfl ?_)))))))))))))
       refine AO.gn rfl rfl rfl (AO.gn rfl rfl rfl (AO.gn rfl rfl rfl (AO.p rfl (p_pickT rfl rfl) (AO.nil ?_))))
       have j4 := a2.front 1 rfl
       have j5 := j4.front 1 rfl
       exact ⟨true, (some_inj j3), j5, Sub.k8 rfl rfl rfl rfl rfl rfl rfl rfl (Sub.k1 rfl (Sub.nil _))⟩
      ·have d9 := bif_f c0 d7
       refine AO.gp rfl rfl rfl (p_move rfl) (AO.gp rfl rfl rfl (p_gtr rfl rfl) (AO.gp rfl rfl rfl (p_move rfl) (AO.cases (d := 50) rfl (fun c1 => ?_) (fun c1 => ?_))))
       ·have j6 := bif_t c1 d9
        refine AO.gp rfl rfl rfl (p_move rfl) (AO.gp rfl rfl rfl (p_move rfl) ?_)
        obtain ⟨j7, j8⟩ := chk_some j6
        refine AO.gp rfl rfl rfl (p_subE rfl rfl j7) ?_
        obtain ⟨e0, j9⟩ := chk_some j8
        obtain ⟨k0, q1, e1, e2⟩ := tget t_a1 (lt_len rfl (inR_lt e0))
        refine AO.gp rfl rfl rfl (s_indexV (q := off p_a1 + (a3 - 1).toNat) underlying24 sizeOf27 rfl ((a2.view v_a1).p e2) rfl e0 (o1 _ _)) (AO.gc rfl rfl rfl (s_load isAgg27 rfl ((a2.view v_a1).get _ _ e2)) ?_)
        obtain ⟨c2, e3⟩ := chk_some j9
        refine AO.gp rfl rfl rfl (s_indexV (q := off k0 + 0) underlying27 sizeOf2 rfl ((TVw.at (a2.tview w_a1) e1).p (ints_get (lt_len rfl (inR_lt c2)))) rfl c2 (o1 _ _)) (AO.gc rfl rfl rfl (s_load isAgg2 rfl ((TVw.at (a2.tview w_a1) e1).get _ _ (ints_get (lt_len rfl (inR_lt c2))))) (AO.gp rfl rfl rfl (p_move rfl) (AO.gp rfl rfl rfl (p_geq rfl rfl) (AO.gp rfl rfl rfl (p_pickT rfl rfl) (AO.p rfl (p_pickF rfl rfl) (AO.m rfl rfl (AO.cases (d := 62) rfl (fun c3 => ?_) (fun c3 => ?_))))))))
        ·have k2 := bif_t c3 e3
         refine AO.gn rfl rfl rfl (AO.gn rfl rfl rfl (AO.gn rfl rfl rfl (AO.gn rfl rfl rfl (AO.p rfl (p_pickT rfl rfl) (AO.m rfl rfl (AO.gn rfl rfl rfl (AO.gn rfl rfl rfl (AO.gn rfl rfl rfl (AO.gn rfl rfl rfl (AO.p rfl (p_pickT rfl rfl) (AO.m rfl rfl (AO.gn rfl rfl rfl (AO.gn rfl rfl rfl ?_)))))))))))))
         refine AO.gn rfl rfl rfl (AO.gn rfl rfl rfl (AO.p rfl (p_pickT rfl rfl) (AO.nil ?_)))
         have k3 := a2.front 1 rfl
         have k5 := k3.front 1 rfl
         exact ⟨true, (some_inj k2), k5, Sub.k8 rfl rfl rfl rfl rfl rfl rfl rfl (Sub.k1 rfl (Sub.nil _))⟩
        ·have k6 := bif_f c3 e3
         refine AO.gp rfl rfl rfl (p_move rfl) (AO.gp rfl rfl rfl (p_move rfl) ?_)
         obtain ⟨e4, e5⟩ := chk_some k6
         refine AO.gp rfl rfl rfl (s_indexV (q := (rd (rw_ a1 a3.toNat) 0).toNat) underlying76 sizeOf4 rfl rfl rfl e4 (z1 _)) (AO.gc rfl rfl rfl (s_load isAgg4 rfl (row_cell (a2.get (k := 0) rfl) (bls_get (lt_len a7 (inR_lt e4))))) (AO.p rfl (p_pickF rfl rfl) (AO.m rfl rfl (AO.cases (d := 68) rfl (fun c4 => ?_) (fun c4 => ?_)))))
         ·have k7 := bif_t c4 e5
          refine AO.gn rfl rfl rfl (AO.gn rfl rfl rfl (AO.gn rfl rfl rfl (AO.gn rfl rfl rfl (AO.p rfl (p_pickT rfl rfl) (AO.m rfl rfl (AO.gn rfl rfl rfl (AO.gn rfl rfl rfl (AO.gn rfl rfl rfl (AO.gn rfl rfl rfl (AO.p rfl (p_pickT rfl rfl) (AO.nil ?_)))))))))))
          have k9 := a2.front 1 rfl
          have l0 := k9.front 1 rfl
          exact ⟨true, (some_inj k7), l0, Sub.k8 rfl rfl rfl rfl rfl rfl rfl rfl (Sub.k1 rfl (Sub.nil _))⟩
         ·have l1 := bif_f c4 e5
          refine AO.gp rfl rfl rfl (p_move rfl) (AO.gp rfl rfl rfl (p_move rfl) ?_)
          obtain ⟨e6, e7⟩ := chk_some l1
          refine AO.gp rfl rfl rfl (s_indexV (q := (rd (rw_ a1 a3.toNat) 1).toNat) underlying76 sizeOf4 rfl rfl rfl e6 (z1 _)) (AO.gc rfl rfl rfl (s_load isAgg4 rfl (row_cell (a2.get (k := 0) rfl) (bls_get (lt_len a7 (inR_lt e6))))) (AO.p rfl (p_pickF rfl rfl) (AO.m rfl rfl (AO.cases (d := 74) rfl (fun c5 => ?_) (fun c5 => ?_)))))
          ·have l2 := bif_t c5 e7
           refine AO.gn rfl rfl rfl (AO.gn rfl rfl rfl (AO.gn rfl rfl rfl (AO.gn rfl rfl rfl (AO.p rfl (p_pickT rfl rfl) (AO.nil ?_)))))
           have l3 := a2.front 1 rfl
           have l4 := l3.front 1 rfl
           exact ⟨true, (some_inj l2), l4, Sub.k8 rfl rfl rfl rfl rfl rfl rfl rfl (Sub.k1 rfl (Sub.nil _))⟩
          ·have l5 := bif_f c5 e7
           refine AO.gp rfl rfl rfl (p_move rfl) (AO.gp rfl rfl rfl (p_move rfl) ?_)
           obtain ⟨e8, l6⟩ := chk_some l5
           refine AO.gp rfl rfl rfl (s_indexV (q := a4.toNat) underlying76 sizeOf4 rfl rfl rfl e8 (z1 _)) (AO.gc rfl rfl rfl (s_load isAgg4 rfl (row_cell (a2.get (k := 1) rfl) (bls_get (lt_len b0 (inR_lt e8))))) (AO.p rfl (p_pickF rfl rfl) (AO.nil ?_)))
           have l7 := a2.front 1 rfl
           have l8 := l7.front 1 rfl
           exact ⟨(rdb a5 a4.toNat), (some_inj l6), l8, Sub.k8 rfl rfl rfl rfl rfl rfl rfl rfl (Sub.k1 rfl (Sub.nil _))⟩
       ·have l9 := bif_f c1 d9
        refine AO.gn rfl rfl rfl (AO.gn rfl rfl rfl (AO.gn rfl rfl rfl (AO.gn rfl rfl rfl (AO.gn rfl rfl rfl (AO.gn rfl rfl rfl (AO.gn rfl rfl rfl (AO.gn rfl rfl rfl (AO.gn rfl rfl rfl (AO.gp rfl rfl rfl (p_pickF rfl rfl) (AO.p rfl (p_pickF rfl rfl) (AO.m rfl rfl (AO.gp rfl rfl rfl (p_move rfl) (AO.gp rfl rfl rfl (p_move rfl) ?_)))))))))))))
        obtain ⟨e9, f0⟩ := chk_some l9
        refine AO.gp rfl rfl rfl (s_indexV (q := (rd (rw_ a1 a3.toNat) 0).toNat) underlying76 sizeOf4 rfl rfl rfl e9 (z1 _)) (AO.gc rfl rfl rfl (s_load isAgg4 rfl (row_cell (a2.get (k := 0) rfl) (bls_get (lt_len a7 (inR_lt e9))))) (AO.p rfl (p_pickF rfl rfl) (AO.m rfl rfl (AO.cases (d := 68) rfl (fun c6 => ?_) (fun c6 => ?_)))))
        ·have m0 := bif_t c6 f0
         refine AO.gn rfl rfl rfl (AO.gn rfl rfl rfl (AO.gn rfl rfl rfl (AO.gn rfl rfl rfl (AO.p rfl (p_pickT rfl rfl) (AO.m rfl rfl (AO.gn rfl rfl rfl (AO.gn rfl rfl rfl (AO.gn rfl rfl rfl (AO.gn rfl rfl rfl (AO.p rfl (p_pickT rfl rfl) (AO.nil ?_)))))))))))
         have m1 := a2.front 1 rfl
         have m2 := m1.front 1 rfl
         exact ⟨true, (some_inj m0), m2, Sub.k8 rfl rfl rfl rfl rfl rfl rfl rfl (Sub.k1 rfl (Sub.nil _))⟩
        ·have m3 := bif_f c6 f0
         refine AO.gp rfl rfl rfl (p_move rfl) (AO.gp rfl rfl rfl (p_move rfl) ?_)
         obtain ⟨f1, f2⟩ := chk_some m3
         refine AO.gp rfl rfl rfl (s_indexV (q := (rd (rw_ a1 a3.toNat) 1).toNat) underlying76 sizeOf4 rfl rfl rfl f1 (z1 _)) (AO.gc rfl rfl rfl (s_load isAgg4 rfl (row_cell (a2.get (k := 0) rfl) (bls_get (lt_len a7 (inR_lt f1))))) (AO.p rfl (p_pickF rfl rfl) (AO.m rfl rfl (AO.cases (d := 74) rfl (fun c7 => ?_) (fun c7 => ?_)))))
         ·have m4 := bif_t c7 f2
          refine AO.gn rfl rfl rfl (AO.gn rfl rfl rfl (AO.gn rfl rfl rfl (AO.gn rfl rfl rfl (AO.p rfl (p_pickT rfl rfl) (AO.nil ?_)))))
          have m5 := a2.front 1 rfl
          have m6 := m5.front 1 rfl
          exact ⟨true, (some_inj m4), m6, Sub.k8 rfl rfl rfl rfl rfl rfl rfl rfl (Sub.k1 rfl (Sub.nil _))⟩
         ·have m7 := bif_f c7 f2
          refine AO.gp rfl rfl rfl (p_move rfl) (AO.gp rfl rfl rfl (p_move rfl) ?_)
          obtain ⟨f3, m8⟩ := chk_some m7
          refine AO.gp rfl rfl rfl (s_indexV (q := a4.toNat) underlying76 sizeOf4 rfl rfl rfl f3 (z1 _)) (AO.gc rfl rfl rfl (s_load isAgg4 rfl (row_cell (a2.get (k := 1) rfl) (bls_get (lt_len b0 (inR_lt f3))))) (AO.p rfl (p_pickF rfl rfl) (AO.nil ?_)))
          have m9 := a2.front 1 rfl
          have n0 := m9.front 1 rfl
          exact ⟨(rdb a5 a4.toNat), (some_inj m8), n0, Sub.k8 rfl rfl rfl rfl rfl rfl rfl rfl (Sub.k1 rfl (Sub.nil _))⟩
     ·rintro t' q2 ⟨b9, rfl, c8, n1⟩
      refine AX.sub n1 (AX.cond rfl (fun c9 => ?_) (fun c9 => ?_))
      ·have n2 := bif_t c9 d8
       refine AX.sr (AO.a rfl rfl (AO.nil (AX.ret ?_)))
       obtain rfl := some_inj n2
       have n3 : _ = d1 := b3
       subst n3
       obtain rfl := some_inj d2
       exact ⟨.inr rfl, _, res1 rfl (rv_tmp rfl), rfl, (flatB_ok rfl), c8.hold⟩
      ·have n4 := bif_f c9 d8
       refine AX.skip (AX.sr (AO.m rfl rfl (AO.m rfl rfl ?_)))
       obtain ⟨f4, n5⟩ := chk_some n4
       refine AO.p rfl (s_indexV (q := (rd (rw_ a1 a3.toNat) 0).toNat) underlying76 sizeOf4 rfl rfl rfl f4 (z1 _)) ?_
       obtain ⟨q3, n6, f5⟩ := c8.set (k := 0) (i := a8) rfl (AObj.row false (bls (a6.set ((rd (rw_ a1 a3.toNat) 0).toNat) true)))
       refine AO.s (s_store sizeOf4 rfl rfl rfl (c8.get (k := 0) rfl) (lt_len ((bls_length _).trans a7) (inR_lt f4)) ((congrArg (fun l => List.set _ _ (AObj.row false l)) (bls_set _ _ _)).trans n6)) (AO.nil (AX.sr (AO.m rfl rfl (AO.m rfl rfl ?_))))
       obtain ⟨f6, n7⟩ := chk_some n5
       refine AO.p rfl (s_indexV (q := (rd (rw_ a1 a3.toNat) 1).toNat) underlying76 sizeOf4 rfl rfl rfl f6 (z1 _)) ?_
       obtain ⟨q4, n8, f7⟩ := f5.set (k := 0) (i := a8) rfl (AObj.row false (bls ((a6.set ((rd (rw_ a1 a3.toNat) 0).toNat) true).set ((rd (rw_ a1 a3.toNat) 1).toNat) true)))
       refine AO.s (s_store sizeOf4 rfl rfl rfl (f5.get (k := 0) rfl) (lt_len ((bls_length _).trans (len_set a7)) (inR_lt f6)) ((congrArg (fun l => List.set _ _ (AObj.row false l)) (bls_set _ _ _)).trans n8)) (AO.nil (AX.sr (AO.m rfl rfl (AO.m rfl rfl ?_))))
       obtain ⟨f8, n9⟩ := chk_some n7
       refine AO.p rfl (s_indexV (q := a4.toNat) underlying76 sizeOf4 rfl rfl rfl f8 (z1 _)) ?_
       obtain ⟨q5, o0, f9⟩ := f7.set (k := 1) (i := a9) rfl (AObj.row false (bls (a5.set a4.toNat true)))
       refine AO.s (s_store sizeOf4 rfl rfl rfl (f7.get (k := 1) rfl) (lt_len ((bls_length _).trans b0) (inR_lt f8)) ((congrArg (fun l => List.set _ _ (AObj.row false l)) (bls_set _ _ _)).trans o0)) (AO.nil (AX.region (AO.m rfl rfl (AO.m rfl rfl (AO.m rfl rfl ?_)))))
       obtain ⟨o2, o3⟩ := chk_some n9
       refine AO.p rfl (p_subE rfl rfl o2) ?_
       obtain ⟨g0, o4⟩ := chk_some o3
       refine AO.p rfl (s_indexV (q := (a0 - a4).toNat) underlying76 sizeOf4 rfl rfl rfl g0 (z1 _)) ?_
       obtain ⟨q6, o5, o6⟩ := f9.set (k := 1) (i := a9) rfl (AObj.row false (bls ((a5.set a4.toNat true).set ((a0 - a4).toNat) true)))
       refine AO.s (s_store sizeOf4 rfl rfl rfl (f9.get (k := 1) rfl) (lt_len ((bls_length _).trans (len_set b0)) (inR_lt g0)) ((congrArg (fun l => List.set _ _ (AObj.row false l)) (bls_set _ _ _)).trans o5)) (AO.nil (AX.region (AO.m rfl rfl ?_)))
       obtain ⟨o7, o8⟩ := chk_some o4
       refine AO.p rfl (p_addE rfl rfl o7) (AO.a rfl rfl (AO.nil ?_))
       obtain rfl := some_inj o8
       have o9 := o6.front 1 rfl
       have p0 := o9.front 1 rfl
       exact ⟨(((a6.set ((rd (rw_ a1 a3.toNat) 0).toNat) true).set ((rd (rw_ a1 a3.toNat) 1).toNat) true), ((a5.set a4.toNat true).set ((a0 - a4).toNat) true), a3 + 1), b3, ((a6.set ((rd (rw_ a1 a3.toNat) 0).toNat) true).set ((rd (rw_ a1 a3.toNat) 1).toNat) true), ((a5.set a4.toNat true).set ((a0 - a4).toNat) true), (a3 + 1), rfl, p0, (len_set (len_set a7)), (len_set (len_set b0)), Sub.k4 rfl rfl rfl rfl (Sub.k1 rfl (Sub.nil _))⟩
    ·have p1 := bif_f b4 b2
     refine AX.exit ?_
     obtain rfl := some_inj p1
     have p2 := a2.keep 0
     exact ⟨b3, p2, Sub.nil _⟩
  ·rintro t' q7 ⟨rfl, p3, p4⟩
   refine ⟨_, p4, ?_⟩
   refine AX.sr (AO.a rfl rfl (AO.nil (AX.ret ?_)))
   obtain rfl := some_inj d2
   exact ⟨.inr rfl, _, res1 rfl (rv_tmp rfl), rfl, (flatB_ok rfl), p3.hold⟩
set_option maxHeartbeats 4000000 in
theorem W_spec_l03Code (fu : Nat) (H : AHeap) (a0 : Int) (p_a1 : Option Addr) (c_a1 : Nat) (T_a1 : Tb) (a1 : List (List Int)) (t_a1 : trows T_a1 = a1) (v_a1 : Vw H p_a1 a1.length c_a1 (tcells T_a1)) (w_a1 : TVw H T_a1) (r0 : Int) (hd : D_spec_l03Code fu a0 a1 = some r0) : ACall Tryz.prog 31 [.int .i64 a0, .slice p_a1 a1.length c_a1] H (.int .i64 r0) H := by
 refine ACall.bodyP (N := 20) [(0, .int .i64 a0), (1, .slice p_a1 a1.length c_a1)] Tryz.func31 rfl rfl rfl rfl ?_
 unfold D_spec_l03Code at hd
 have S0 : St [] H H [] := St.nil H
 refine AX.sr (AO.a rfl rfl (AO.nil (AX.seq (AX.block ?_))))
 obtain ⟨b1, b2, a7⟩ := bnd_some hd
 refine AX.cut (fun t' H' => ∃ (a3 : Bool), a3 = b1 ∧ St [] H H' [] ∧ Am.Sub [(0, .int .i64 a0), (1, .slice p_a1 a1.length c_a1), (5, .bool a3)] t') ?_ ?_
 ·skip
  refine AX.region (AO.m rfl rfl ?_)
  obtain ⟨b3, b4, a8⟩ := bnd_some b2
  refine AO.c rfl (o_call (vs := [.int .i64 a0]) rfl Tryz.call50 (W_spec_l03Modulus fu H a0 b3 b4)) (AO.p rfl (p_not rfl) (AO.m rfl rfl (AO.cases (d := 9) rfl (fun a4 => ?_) (fun a4 => ?_))))
  ·have b5 := bif_t a4 a8
   refine AO.gn rfl rfl rfl (AO.gn rfl rfl rfl (AO.gn rfl rfl rfl (AO.gn rfl rfl rfl (AO.p rfl (p_pickT rfl rfl) (AO.a rfl rfl (AO.nil ?_))))))
   exact ⟨true, (some_inj b5), S0, Sub.k2 rfl rfl (Sub.k1 rfl (Sub.nil _))⟩
  ·have b6 := bif_f a4 a8
   refine AO.gp rfl rfl rfl (p_move rfl) (AO.gp rfl rfl rfl (p_move rfl) ?_)
   obtain ⟨a9, b7, b8⟩ := bnd_some b6
   refine AO.gc rfl rfl rfl (o_call (vs := [.int .i64 a0, .slice p_a1 a1.length c_a1]) rfl Tryz.call62 (W_spec_l03Lists fu H a0 p_a1 c_a1 T_a1 a1 t_a1 (S0.view v_a1) (S0.tview w_a1) a9 b7)) (AO.gp rfl rfl rfl (p_not rfl) (AO.p rfl (p_pickF rfl rfl) (AO.a rfl rfl (AO.nil ?_))))
   exact ⟨(!a9), (some_inj b8), S0, Sub.k2 rfl rfl (Sub.k1 rfl (Sub.nil _))⟩
 ·rintro t' b9 ⟨a3, rfl, a2, c0⟩
  refine AX.sub c0 (AX.cond rfl (fun a5 => ?_) (fun a5 => ?_))
  ·have c1 := bif_t a5 a7
   refine AX.sr (AO.a rfl rfl (AO.nil (AX.ret ?_)))
   obtain rfl := some_inj c1
   exact ⟨.inr rfl, _, res1 rfl (rv_tmp rfl), rfl, (flatB_ok rfl), a2.hold⟩
  ·have c2 := bif_f a5 a7
   refine AX.sr (AO.m rfl rfl (AO.m rfl rfl ?_))
   obtain ⟨c3, c4, b0⟩ := bnd_some c2
   refine AO.c rfl (o_call (vs := [.int .i64 a0, .slice p_a1 a1.length c_a1]) rfl Tryz.call63 (W_spec_l03Is fu b9 a0 p_a1 c_a1 T_a1 a1 t_a1 (a2.view v_a1) (a2.tview w_a1) c3 c4)) (AO.p rfl (p_not rfl) (AO.a rfl rfl (AO.nil (AX.cond rfl (fun a6 => ?_) (fun a6 => ?_)))))
   ·have c5 := bif_t a6 b0
    refine AX.sr (AO.a rfl rfl (AO.nil (AX.ret ?_)))
    obtain rfl := some_inj c5
    exact ⟨.inr rfl, _, res1 rfl (rv_tmp rfl), rfl, (flatB_ok rfl), a2.hold⟩
   ·have c6 := bif_f a6 b0
    refine AX.skip (AX.sr (AO.a rfl rfl (AO.nil (AX.ret ?_))))
    obtain rfl := some_inj c6
    exact ⟨.inr rfl, _, res1 rfl (rv_tmp rfl), rfl, (flatB_ok rfl), a2.hold⟩
end Go.Proofs.YtdafmafigcljkaaGreat
