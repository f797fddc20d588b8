
/-
 The program computes that, printed by a program. No condition.
-/
import Derived.Test.YtdafmafigcljkaaGreatDG
import Derived.Test.YtdafmafigcljkaaGreatWB
import Derived.Test.YtdafmafigcljkaaGreatProg
import Derived.KernelRfl
namespace Go.Proofs.YtdafmafigcljkaaGreat
open Go Go.RowKit Am Go.Proofs.Tryz
set_option linter.unusedVariables false
set_option linter.unusedSimpArgs false
set_option maxRecDepth 20000
set_option maxHeartbeats 4000000 in
theorem W_spec_IsAdder (fu : Nat) (H : AHeap) (a0 : Int) (p_a1 : Option Addr) (c_a1 : Nat) (T_a1 : Tb) (a1 : List (List Int)) (t_a1 : trows T_a1 = a1) (v_a1 : Vw H p_a1 a1.length c_a1 (tcells T_a1)) (w_a1 : TVw H T_a1) (p_a2 : Option Addr) (c_a2 : Nat) (a2 : List Int) (v_a2 : Vw H p_a2 a2.length c_a2 (ints a2)) (r0 : Bool) (r1 : Int) (hd : D_spec_IsAdder fu a0 a1 a2 = some (r0, r1)) : ACall Tryz.prog 20 [.int .i64 a0, .slice p_a1 a1.length c_a1, .slice p_a2 a2.length c_a2] H (.tuple #[.bool r0, .int .i64 r1]) H := by
 refine ACall.bodyP (N := 41) [(0, .int .i64 a0), (1, .slice p_a1 a1.length c_a1), (2, .slice p_a2 a2.length c_a2)] Tryz.func20 rfl rfl rfl rfl ?_
 unfold D_spec_IsAdder at hd
 have S0 : St [] H H [] := St.nil H
 refine AX.sr (AO.a rfl rfl (AO.a rfl rfl (AO.nil (AX.sr (AO.m rfl rfl (AO.m rfl rfl ?_))))))
 obtain ⟨a6, c2, c3⟩ := bnd_some hd
 refine AO.c rfl (o_call (vs := [.int .i64 a0, .slice p_a1 a1.length c_a1]) rfl Tryz.call31 (W_spec_l03Code fu H a0 p_a1 c_a1 T_a1 a1 t_a1 (S0.view v_a1) (S0.tview w_a1) a6 c2)) (AO.a rfl rfl (AO.nil (AX.seq (AX.sr (AO.m rfl rfl (AO.p rfl (p_neq rfl rfl) (AO.nil ?_)))))))
 obtain ⟨a8, b7, a7⟩ := bnd_some c3
 refine AX.cutS (fun t' H' => .inl () = a8 ∧ St [] H H' [] ∧ Am.Sub [(0, .int .i64 a0), (1, .slice p_a1 a1.length c_a1), (2, .slice p_a2 a2.length c_a2), (8, .int .i64 a6)] t') ?_ ?_
 ·skip
  refine AX.cond rfl (fun a9 => ?_) (fun a9 => ?_)
  ·have b8 := bif_t a9 b7
   refine AX.seq (AX.sr (AO.m rfl rfl (AO.p rfl (p_len_slice rfl underlying27) (AO.m rfl rfl (AO.p rfl (p_len_slice rfl underlying24) (AO.p rfl (p_neq rfl rfl) (AO.nil (AX.cond rfl (fun b0 => ?_) (fun b0 => ?_)))))))))
   ·have c4 := bif_t b0 b8
    refine AX.sr (AO.a rfl rfl (AO.a rfl rfl (AO.nil (AX.ret ?_))))
    have c5 : _ = a8 := some_inj c4
    subst c5
    obtain ⟨rfl, rfl⟩ := Prod.mk.inj (some_inj a7)
    exact ⟨.inr rfl, _, res2 rfl (rv_tmp rfl) (rv_tmp rfl), rfl, (flat_t2 (flatB_ok rfl) (flatB_ok rfl)), S0.hold⟩
   ·have c6 := bif_f b0 b8
    refine AX.skip (AX.sr (AO.a rfl rfl (AO.nil ?_)))
    obtain ⟨b9, c7, c0⟩ := bnd_some c6
    refine AX.cutS (fun t' H' => .inl () = b9 ∧ St [] H H' [] ∧ Am.Sub [(0, .int .i64 a0), (1, .slice p_a1 a1.length c_a1), (2, .slice p_a2 a2.length c_a2), (8, .int .i64 a6)] t') ?_ ?_
    ·refine AX.block (AX.loopF (fun s' t' H' => ∃ (a3 : Int), a3 = s' ∧ St [] H H' [] ∧ Am.Sub [(0, .int .i64 a0), (1, .slice p_a1 a1.length c_a1), (2, .slice p_a2 a2.length c_a2), (8, .int .i64 a6), (9, .int .i64 a3)] t') c7 ?_ ?_)
     ·skip
      exact ⟨0, rfl, S0, Sub.k4 rfl rfl rfl rfl (Sub.k1 rfl (Sub.nil _))⟩
     ·rintro f3 _ t' c8 ⟨a3, rfl, a4, c9⟩ f4 b1 b2
      refine AX.sub c9 ?_
      unfold D_spec_IsAdder_s0 at b1
      refine AX.seq (AX.sr (AO.m rfl rfl (AO.m rfl rfl (AO.p rfl (p_len_slice rfl underlying27) (AO.p rfl (p_lss rfl rfl) (AO.nil (AX.cond rfl (fun b3 => ?_) (fun b3 => ?_))))))))
      ·have d0 := bif_t b3 b1
       refine AX.skip (AX.seq (AX.block (AX.sr (AO.m rfl rfl (AO.m rfl rfl ?_)))))
       obtain ⟨b4, d1⟩ := chk_some d0
       refine AO.p rfl (s_indexV (q := off p_a2 + a3.toNat) underlying27 sizeOf2 rfl ((a4.view v_a2).p (ints_get (lt_len rfl (inR_lt b4)))) rfl b4 (o1 _ _)) (AO.c rfl (s_load isAgg2 rfl ((a4.view v_a2).get _ _ (ints_get (lt_len rfl (inR_lt b4))))) (AO.m rfl rfl ?_))
       obtain ⟨d2, d3⟩ := chk_some d1
       refine AO.p rfl (p_subE rfl rfl d2) ?_
       obtain ⟨d4, d5, c1⟩ := bnd_some d3
       refine AO.c rfl (o_call (vs := [.int .i64 (rd a2 a3.toNat), .int .i64 1, .int .i64 (a0 - 1)]) rfl Tryz.call56 (W_spec_l01In fu c8 (rd a2 a3.toNat) 1 (a0 - 1) d4 d5)) (AO.p rfl (p_not rfl) (AO.nil (AX.cond rfl (fun b5 => ?_) (fun b5 => ?_))))
       ·have d6 := bif_t b5 c1
        refine AX.sr (AO.a rfl rfl (AO.a rfl rfl (AO.nil (AX.ret ?_))))
        obtain rfl := some_inj d6
        have d7 : _ = b9 := b2
        subst d7
        have d8 : _ = a8 := some_inj c0
        subst d8
        obtain ⟨rfl, rfl⟩ := Prod.mk.inj (some_inj a7)
        exact ⟨.inr rfl, _, res2 rfl (rv_tmp rfl) (rv_tmp rfl), rfl, (flat_t2 (flatB_ok rfl) (flatB_ok rfl)), a4.hold⟩
       ·have d9 := bif_f b5 c1
        refine AX.skip (AX.region (AO.m rfl rfl ?_))
        obtain ⟨e0, e1⟩ := chk_some d9
        refine AO.p rfl (p_addE rfl rfl e0) (AO.a rfl rfl (AO.nil ?_))
        obtain rfl := some_inj e1
        exact ⟨a3 + 1, b2, (a3 + 1), rfl, a4, Sub.k4 rfl rfl rfl rfl (Sub.k1 rfl (Sub.nil _))⟩
      ·have e2 := bif_f b3 b1
       refine AX.exit ?_
       obtain rfl := some_inj e2
       exact ⟨b2, a4, Sub.k4 rfl rfl rfl rfl (Sub.nil _)⟩
    ·rintro t' f5 ⟨rfl, e3, e4⟩
     refine ⟨_, e4, ?_⟩
     exact ⟨(some_inj c0), e3, Sub.k4 rfl rfl rfl rfl (Sub.nil _)⟩
  ·have e5 := bif_f a9 b7
   refine AX.skip ?_
   exact ⟨(some_inj e5), S0, Sub.k4 rfl rfl rfl rfl (Sub.nil _)⟩
 ·rintro t' e6 ⟨rfl, a5, e7⟩
  refine ⟨_, e7, ?_⟩
  refine AX.seq (AX.sr (AO.m rfl rfl (AO.p rfl (p_neq rfl rfl) (AO.nil (AX.cond rfl (fun b6 => ?_) (fun b6 => ?_))))))
  ·have e8 := bif_t b6 a7
   refine AX.sr (AO.m rfl rfl (AO.a rfl rfl (AO.a rfl rfl (AO.nil (AX.ret ?_)))))
   obtain ⟨rfl, rfl⟩ := Prod.mk.inj (some_inj e8)
   exact ⟨.inr rfl, _, res2 rfl (rv_tmp rfl) (rv_tmp rfl), rfl, (flat_t2 (flatB_ok rfl) (flatB_ok rfl)), a5.hold⟩
  ·have e9 := bif_f b6 a7
   refine AX.skip (AX.sr (AO.m rfl rfl (AO.m rfl rfl (AO.m rfl rfl ?_))))
   obtain ⟨f0, f1, f2⟩ := bnd_some e9
   refine AO.c rfl (o_call (vs := [.int .i64 a0, .slice p_a1 a1.length c_a1, .slice p_a2 a2.length c_a2]) rfl Tryz.call57 (W_spec_l03Adder fu e6 a0 p_a1 c_a1 T_a1 a1 t_a1 (a5.view v_a1) (a5.tview w_a1) p_a2 c_a2 a2 (a5.view v_a2) f0 f1)) (AO.a rfl rfl (AO.a rfl rfl (AO.nil (AX.ret ?_))))
   obtain ⟨rfl, rfl⟩ := Prod.mk.inj (some_inj f2)
   exact ⟨.inr rfl, _, res2 rfl (rv_tmp rfl) (rv_tmp rfl), rfl, (flat_t2 (flatB_ok rfl) (flatB_ok rfl)), a5.hold⟩
set_option maxHeartbeats 4000000 in
theorem W_impl_IsAdder_1_1 (fu : Nat) (H : AHeap) (a0 : Int) (i_b0 : Nat) (ro_b0 : Bool) (b0_0 : Int) (o_b0 : hget H i_b0 = .row ro_b0 ([.int .i64 b0_0])) (r0 : Bool) (hd : D_impl_IsAdder_1_1 fu a0 b0_0 = some r0) : ACall Tryz.prog 38 [.int .i64 a0, .pointer (some ⟨i_b0, 0, none⟩)] H (.bool r0) H := by
 refine ACall.bodyP (N := 9) [(0, .int .i64 a0), (1, .pointer (some ⟨i_b0, 0, none⟩))] Tryz.func38 rfl rfl rfl rfl ?_
 unfold D_impl_IsAdder_1_1 at hd
 have S0 : St [] H H [] := St.nil H
 refine AX.sr (AO.a rfl rfl (AO.nil (AX.sr (AO.m rfl rfl (AO.c rfl (s_load isAgg2 rfl (row_cell (S0.old o_b0 (by simp)) rfl)) ?_)))))
 obtain ⟨a1, a2⟩ := chk_some hd
 refine AO.p rfl (p_subE rfl rfl a1) ?_
 obtain ⟨a3, a4, a5⟩ := bnd_some a2
 refine AO.c rfl (o_call (vs := [.int .i64 a0, .int .i64 1, .int .i64 (b0_0 - 1)]) rfl Tryz.call39 (W_impl_between fu H a0 1 (b0_0 - 1) a3 a4)) (AO.p rfl (p_not rfl) (AO.a rfl rfl (AO.nil (AX.ret ?_))))
 obtain rfl := some_inj a5
 exact ⟨.inr rfl, _, res1 rfl (rv_tmp rfl), rfl, (flatB_ok rfl), S0.hold⟩
set_option maxHeartbeats 4000000 in
theorem W_impl_IsAdder_1 (fu : Nat) (H : AHeap) (i_b0 : Nat) (ro_b0 : Bool) (p_b0_0 : Option Addr) (c_b0_0 : Nat) (b0_0 : List Int) (v_b0_0 : Vw H p_b0_0 b0_0.length c_b0_0 (ints b0_0)) (o_b0 : hget H i_b0 = .row ro_b0 ([.slice p_b0_0 b0_0.length c_b0_0])) (i_b1 : Nat) (ro_b1 : Bool) (p_b1_0 : Option Addr) (c_b1_0 : Nat) (T_b1_0 : Tb) (b1_0 : List (List Int)) (t_b1_0 : trows T_b1_0 = b1_0) (v_b1_0 : Vw H p_b1_0 b1_0.length c_b1_0 (tcells T_b1_0)) (w_b1_0 : TVw H T_b1_0) (o_b1 : hget H i_b1 = .row ro_b1 ([.slice p_b1_0 b1_0.length c_b1_0])) (i_b2 : Nat) (ro_b2 : Bool) (b2_0 : Int) (o_b2 : hget H i_b2 = .row ro_b2 ([.int .i64 b2_0])) (r0 : Bool) (hd : D_impl_IsAdder_1 fu b0_0 b1_0 b2_0 = some r0) : ACall Tryz.prog 36 [.pointer (some ⟨i_b0, 0, none⟩), .pointer (some ⟨i_b1, 0, none⟩), .pointer (some ⟨i_b2, 0, none⟩)] H (.bool r0) H := by
 refine ACall.bodyP (N := 15) [(0, .pointer (some ⟨i_b0, 0, none⟩)), (1, .pointer (some ⟨i_b1, 0, none⟩)), (2, .pointer (some ⟨i_b2, 0, none⟩))] Tryz.func36 rfl rfl rfl rfl ?_
 unfold D_impl_IsAdder_1 at hd
 have S0 : St [] H H [] := St.nil H
 refine AX.sr (AO.a rfl rfl (AO.nil ?_))
 obtain ⟨a4, a2, a5⟩ := bnd_some hd
 refine AX.cut (fun t' H' => ∃ (a0 : Bool), a0 = a4 ∧ St [] H H' [] ∧ Am.Sub [(3, .bool a0)] t') ?_ ?_
 ·skip
  refine AX.region (AO.c rfl (s_load isAgg27 rfl (row_cell (S0.old o_b0 (by simp)) rfl)) (AO.p rfl (p_len_slice rfl underlying27) (AO.c rfl (s_load isAgg24 rfl (row_cell (S0.old o_b1 (by simp)) rfl)) (AO.p rfl (p_len_slice rfl underlying24) (AO.p rfl (p_eql rfl rfl) (AO.m rfl rfl (AO.cases (d := 9) rfl (fun a1 => ?_) (fun a1 => ?_))))))))
  ·have a6 := bif_t a1 a2
   refine AO.gc rfl rfl rfl (s_load isAgg27 rfl (row_cell (S0.old o_b0 (by simp)) rfl)) (AO.gp rfl rfl rfl (p_makeFunc (fs := []) (cs := [.pointer (some ⟨i_b2, 0, none⟩)]) rfl rfl) ?_)
   obtain ⟨a3, a7, a8⟩ := bnd_some a6
   refine AO.gc rfl rfl rfl (o_call (vs := [.slice p_b0_0 b0_0.length c_b0_0, .func (.func 38) #[] #[.pointer (some ⟨i_b2, 0, none⟩)]]) rfl Tryz.call37 (W_slices_ContainsFunc_Sint64_int64 fu H p_b0_0 c_b0_0 b0_0 (S0.view v_b0_0) 38 #[] #[.pointer (some ⟨i_b2, 0, none⟩)] (fun x0' => D_impl_IsAdder_1_1 fu x0' b2_0) Tryz.call38 (fun G' hG x0' b' hb' => W_impl_IsAdder_1_1 fu G' x0' i_b2 _ b2_0 (hG.get (S0.old o_b2 (by simp))) b' hb') a3 a7)) (AO.gp rfl rfl rfl (p_not rfl) (AO.p rfl (p_pickT rfl rfl) (AO.a rfl rfl (AO.nil ?_))))
   exact ⟨(!a3), (some_inj a8), S0, Sub.k1 rfl (Sub.nil _)⟩
  ·have a9 := bif_f a1 a2
   refine AO.gn rfl rfl rfl (AO.gn rfl rfl rfl (AO.gn rfl rfl rfl (AO.gn rfl rfl rfl (AO.p rfl (p_pickF rfl rfl) (AO.a rfl rfl (AO.nil ?_))))))
   exact ⟨false, (some_inj a9), S0, Sub.k1 rfl (Sub.nil _)⟩
 ·rintro t' b2 ⟨a0, rfl, b0, b1⟩
  refine AX.sub b1 (AX.ret ?_)
  obtain rfl := some_inj a5
  exact ⟨.inr rfl, _, res1 rfl (rv_tmp rfl), rfl, (flatB_ok rfl), b0.hold⟩
set_option maxHeartbeats 4000000 in
theorem W_impl_IsAdder (fu : Nat) (H : AHeap) (a0 : Int) (p_a1 : Option Addr) (c_a1 : Nat) (T_a1 : Tb) (a1 : List (List Int)) (t_a1 : trows T_a1 = a1) (v_a1 : Vw H p_a1 a1.length c_a1 (tcells T_a1)) (w_a1 : TVw H T_a1) (p_a2 : Option Addr) (c_a2 : Nat) (a2 : List Int) (v_a2 : Vw H p_a2 a2.length c_a2 (ints a2)) (r0 : Bool) (r1 : Int) (hd : D_impl_IsAdder fu a0 a1 a2 = some (r0, r1)) : ACall Tryz.prog 11 [.int .i64 a0, .slice p_a1 a1.length c_a1, .slice p_a2 a2.length c_a2] H (.tuple #[.bool r0, .int .i64 r1]) H := by
 refine ACall.bodyP (N := 21) [(0, .int .i64 a0), (1, .slice p_a1 a1.length c_a1), (2, .slice p_a2 a2.length c_a2)] Tryz.func11 rfl rfl rfl rfl ?_
 unfold D_impl_IsAdder at hd
 have S0 : St [] H H [] := St.nil H
 refine AX.sr ?_
 obtain ⟨c9, a4, b2, b3, b4⟩ := S0.new (AObj.row false ([.int .i64 a0]))
 refine AO.c rfl (s_box (i := a4) (cs := [.int .i64 a0]) rfl b2 rfl b3) ?_
 obtain ⟨d0, a5, b5, b6, b7⟩ := b4.new (AObj.row false ([.slice p_a1 a1.length c_a1]))
 refine AO.c rfl (s_box (i := a5) (cs := [.slice p_a1 a1.length c_a1]) rfl b5 rfl b6) ?_
 obtain ⟨d1, a6, b8, b9, a7⟩ := b7.new (AObj.row false ([.slice p_a2 a2.length c_a2]))
 refine AO.c rfl (s_box (i := a6) (cs := [.slice p_a2 a2.length c_a2]) rfl b8 rfl b9) (AO.a rfl rfl (AO.a rfl rfl (AO.nil (AX.seq (AX.sr (AO.c rfl (s_load isAgg2 rfl (row_cell (a7.get (k := 2) rfl) rfl)) (AO.p rfl (p_makeFunc (fs := []) (cs := [.pointer (some ⟨a6, 0, none⟩), .pointer (some ⟨a5, 0, none⟩), .pointer (some ⟨a4, 0, none⟩)]) rfl rfl) (AO.c rfl (s_load isAgg24 rfl (row_cell (a7.get (k := 1) rfl) rfl)) ?_))))))))
 obtain ⟨b0, a8, c0, c1, a3⟩ := a7.new (AObj.row false ([.slice p_a1 a1.length c_a1]))
 refine AO.c rfl (s_buildSl (i := a8) (vs := [(0, .slice p_a1 a1.length c_a1)]) (cs := [.slice p_a1 a1.length c_a1]) underlying66 sizeOf24 zeroValue24 rfl rfl (by decide) rfl rfl c0 c1) ?_
 obtain ⟨c2, c3, b1⟩ := bnd_some hd
 refine AO.c rfl (o_call (vs := [.int .i64 a0, .func (.func 36) #[] #[.pointer (some ⟨a6, 0, none⟩), .pointer (some ⟨a5, 0, none⟩), .pointer (some ⟨a4, 0, none⟩)], .slice (some (Addr.mk a8 0 none)) 1 1]) rfl Tryz.call27 (W_impl_starterCode fu b0 a0 36 #[] #[.pointer (some ⟨a6, 0, none⟩), .pointer (some ⟨a5, 0, none⟩), .pointer (some ⟨a4, 0, none⟩)] (fun _ => D_impl_IsAdder_1 fu a2 a1 a0) Tryz.call36 (fun G' hG  b' hb' => W_impl_IsAdder_1 fu G' a6 false p_a2 c_a2 a2 (hG.view (a3.view v_a2)) (hG.get (a3.get (k := 1) rfl)) a5 false p_a1 c_a1 T_a1 a1 t_a1 (hG.view (a3.view v_a1)) (hG.tview (a3.tview w_a1)) (hG.get (a3.get (k := 2) rfl)) a4 false a0 (hG.get (a3.get (k := 3) rfl)) b' hb') (some (Addr.mk a8 0 none)) 1 [(p_a1, c_a1, T_a1)] [a1] (trows3_1 t_a1) (vw3_1 (a3.get (k := 0) rfl) t_a1 rfl) (TVw3.cons (a3.view v_a1) t_a1 rfl (a3.tview w_a1) TVw3.nil) c2 c3)) (AO.a rfl rfl (AO.nil (AX.sr (AO.m rfl rfl (AO.p rfl (p_neq rfl rfl) (AO.nil (AX.cond rfl (fun a9 => ?_) (fun a9 => ?_))))))))
 ·have c4 := bif_t a9 b1
  refine AX.sr (AO.m rfl rfl (AO.a rfl rfl (AO.a rfl rfl (AO.nil (AX.ret ?_)))))
  obtain ⟨rfl, rfl⟩ := Prod.mk.inj (some_inj c4)
  exact ⟨.inr rfl, _, res2 rfl (rv_tmp rfl) (rv_tmp rfl), rfl, (flat_t2 (flatB_ok rfl) (flatB_ok rfl)), a3.hold⟩
 ·have c5 := bif_f a9 b1
  refine AX.skip (AX.sr (AO.c rfl (s_load isAgg2 rfl (row_cell (a3.get (k := 3) rfl) rfl)) (AO.c rfl (s_load isAgg24 rfl (row_cell (a3.get (k := 2) rfl) rfl)) (AO.c rfl (s_load isAgg27 rfl (row_cell (a3.get (k := 1) rfl) rfl)) ?_))))
  obtain ⟨c6, c7, c8⟩ := bnd_some c5
  refine AO.c rfl (o_call (vs := [.int .i64 a0, .slice p_a1 a1.length c_a1, .slice p_a2 a2.length c_a2]) rfl Tryz.call40 (W_impl_isAdder fu b0 a0 p_a1 c_a1 T_a1 a1 t_a1 (a3.view v_a1) (a3.tview w_a1) p_a2 c_a2 a2 (a3.view v_a2) c6 c7)) (AO.a rfl rfl (AO.a rfl rfl (AO.nil (AX.ret ?_))))
  obtain ⟨rfl, rfl⟩ := Prod.mk.inj (some_inj c8)
  exact ⟨.inr rfl, _, res2 rfl (rv_tmp rfl) (rv_tmp rfl), rfl, (flat_t2 (flatB_ok rfl) (flatB_ok rfl)), a3.hold⟩
set_option maxHeartbeats 4000000 in
theorem W_spec_l03Orthogonal (fu : Nat) (H : AHeap) (a0 : Int) (p_a1 : Option Addr) (c_a1 : Nat) (T_a1 : Tb) (a1 : List (List Int)) (t_a1 : trows T_a1 = a1) (v_a1 : Vw H p_a1 a1.length c_a1 (tcells T_a1)) (w_a1 : TVw H T_a1) (p_a2 : Option Addr) (c_a2 : Nat) (T_a2 : Tb) (a2 : List (List Int)) (t_a2 : trows T_a2 = a2) (v_a2 : Vw H p_a2 a2.length c_a2 (tcells T_a2)) (w_a2 : TVw H T_a2) (r0 : Bool) (hd : D_spec_l03Orthogonal fu a0 a1 a2 = some r0) : ACall Tryz.prog 64 [.int .i64 a0, .slice p_a1 a1.length c_a1, .slice p_a2 a2.length c_a2] H (.bool r0) H := by
 refine ACall.bodyP (N := 115) [(0, .int .i64 a0), (1, .slice p_a1 a1.length c_a1), (2, .slice p_a2 a2.length c_a2)] Tryz.func64 rfl rfl rfl rfl ?_
 unfold D_spec_l03Orthogonal at hd
 have S0 : St [] H H [] := St.nil H
 refine AX.sr (AO.a rfl rfl (AO.nil (AX.sr (AO.m rfl rfl ?_))))
 obtain ⟨i0, i1⟩ := chk_some hd
 obtain ⟨t1, a8, i2, i3, e9⟩ := S0.new (AObj.row false (bls (List.replicate a0.toNat false)))
 refine AO.c rfl (s_make1 (v := .bool false) (i := a8) (by_ := 1) underlying76 typeInfo4 sizeOf4 zeroValue4 rfl rfl rfl rfl rfl rfl i0 bls_rep i2 i3) (AO.a rfl rfl (AO.nil (AX.sr (AO.m rfl rfl ?_))))
 obtain ⟨f0, i4⟩ := chk_some i1
 refine AO.p rfl (s_indexV (q := 0) underlying76 sizeOf4 rfl rfl rfl f0 rfl) ?_
 obtain ⟨t2, i5, i6⟩ := e9.set (k := 0) (i := a8) rfl (AObj.row false (bls ((List.replicate a0.toNat false).set 0 true)))
 refine AO.s (s_store sizeOf4 rfl rfl rfl (e9.get (k := 0) rfl) (lt_len ((bls_length _).trans len_rep) (inR_lt f0)) ((congrArg (fun l => List.set _ _ (AObj.row false l)) (bls_set _ _ _)).trans i5)) (AO.nil (AX.seq (AX.sr (AO.a rfl rfl (AO.nil ?_)))))
 obtain ⟨b7, i7, b8⟩ := bnd_some i4
 refine AX.cutS (fun t' H' => .inl () = b7 ∧ St [] H H' [] ∧ Am.Sub [] t') ?_ ?_
 ·refine AX.block (AX.loopF (fun s' t' H' => ∃ (b4 : List Bool) (a5 : Int), (b4, a5) = s' ∧ St [] H H' [[(a8, AObj.row false (bls b4))]] ∧ b4.length = a0.toNat ∧ Am.Sub [(0, .int .i64 a0), (1, .slice p_a1 a1.length c_a1), (2, .slice p_a2 a2.length c_a2), (7, .slice (some (Addr.mk a8 0 none)) a0.toNat a0.toNat), (8, .int .i64 a5)] t') i7 ?_ ?_)
  ·skip
   have i8 := i6.front 0 rfl
   exact ⟨((List.replicate a0.toNat false).set 0 true), 0, rfl, i8, (len_set len_rep), Sub.k4 rfl rfl rfl rfl (Sub.k1 rfl (Sub.nil _))⟩
  ·rintro t3 _ t' i9 ⟨b4, a5, rfl, a7, j0, j1⟩ t4 b9 b5
   refine AX.sub j1 ?_
   unfold D_spec_l03Orthogonal_s0 at b9
   refine AX.seq (AX.sr (AO.m rfl rfl (AO.m rfl rfl (AO.p rfl (p_len_slice rfl underlying24) (AO.p rfl (p_lss rfl rfl) (AO.nil (AX.cond rfl (fun c0 => ?_) (fun c0 => ?_))))))))
   ·have j2 := bif_t c0 b9
    refine AX.skip (AX.seq (AX.block (AX.seq (DR.startS [false, false, false, false, false, false, false, false, false, false, false, false, false, false, true, false] mix (by kernel_rfl) (fun hst => ?_)))))
    refine DR.p rfl rfl (p_move rfl) (DR.p rfl rfl (p_move rfl) ?_)
    obtain ⟨f1, j3⟩ := chk_some j2
    obtain ⟨j4, t5, c1, f2⟩ := tget t_a1 (lt_len rfl (inR_lt f1))
    refine DR.p rfl rfl (s_indexV (q := off p_a1 + a5.toNat) underlying24 sizeOf27 rfl ((a7.view v_a1).p f2) rfl f1 (o1 _ _)) (DR.r rfl rfl (r_load rfl isAgg27) (one_read ((a7.view v_a1).get _ _ f2) (TVw.at (a7.tview w_a1) c1).inn.bel) ?_)
    obtain ⟨c2, j5⟩ := chk_some j3
    refine DR.p rfl rfl (s_indexV (q := off j4 + 1) underlying27 sizeOf2 rfl ((TVw.at (a7.tview w_a1) c1).p (ints_get (lt_len rfl (inR_lt c2)))) rfl c2 (o1 _ _)) (DR.r rfl rfl (r_load rfl isAgg2) (one_read ((TVw.at (a7.tview w_a1) c1).get _ _ (ints_get (lt_len rfl (inR_lt c2)))) (.of_flat0 rfl)) (DR.p rfl rfl (p_move rfl) (DR.p rfl rfl (p_move rfl) ?_)))
    obtain ⟨f3, j6⟩ := chk_some j5
    obtain ⟨j7, t6, c3, f4⟩ := tget t_a1 (lt_len rfl (inR_lt f3))
    refine DR.p rfl rfl (s_indexV (q := off p_a1 + a5.toNat) underlying24 sizeOf27 rfl ((a7.view v_a1).p f4) rfl f3 (o1 _ _)) (DR.r rfl rfl (r_load rfl isAgg27) (one_read ((a7.view v_a1).get _ _ f4) (TVw.at (a7.tview w_a1) c3).inn.bel) ?_)
    obtain ⟨c4, j8⟩ := chk_some j6
    refine DR.p rfl rfl (s_indexV (q := off j7 + 0) underlying27 sizeOf2 rfl ((TVw.at (a7.tview w_a1) c3).p (ints_get (lt_len rfl (inR_lt c4)))) rfl c4 (o1 _ _)) (DR.r rfl rfl (r_load rfl isAgg2) (one_read ((TVw.at (a7.tview w_a1) c3).get _ _ (ints_get (lt_len rfl (inR_lt c4)))) (.of_flat0 rfl)) ?_)
    obtain ⟨j9, k0⟩ := chk_some j8
    refine DR.p rfl rfl (p_subE rfl rfl j9) (DR.p rfl rfl (p_move rfl) ?_)
    obtain ⟨f5, k3, k5⟩ := bnd_some k0
    refine DR.w rfl rfl (o_call (vs := [.int .i64 (rd (rw_ a1 a5.toNat) 1 - (rd (rw_ a1 a5.toNat) 0)), .int .i64 a0]) rfl Tryz.call80 (W_spec_l03Mod fu i9 (rd (rw_ a1 a5.toNat) 1 - (rd (rw_ a1 a5.toNat) 0)) a0 f5 k3)) (Nat.le_refl _) (DR.p rfl rfl (p_assign rfl) (DR.nil 16 [] hst (by kernel_rfl) trivial (AX.sr (AO.a rfl rfl (AO.nil ?_)))))
    obtain ⟨c5, k6, c6⟩ := bnd_some k5
    refine AX.cutS (fun t' H' => ∃ (b0 : List Bool), .inl b0 = c5 ∧ St [] H H' [[(a8, AObj.row false (bls b0))]] ∧ b0.length = a0.toNat ∧ Am.Sub [(0, .int .i64 a0), (1, .slice p_a1 a1.length c_a1), (2, .slice p_a2 a2.length c_a2), (7, .slice (some (Addr.mk a8 0 none)) a0.toNat a0.toNat), (8, .int .i64 a5)] t') ?_ ?_
    ·refine AX.block (AX.loopF (fun s' t' H' => ∃ (a6 : List Bool) (a4 : Int), (a6, a4) = s' ∧ St [] H H' [[(a8, AObj.row false (bls a6))]] ∧ a6.length = a0.toNat ∧ Am.Sub [(0, .int .i64 a0), (1, .slice p_a1 a1.length c_a1), (2, .slice p_a2 a2.length c_a2), (7, .slice (some (Addr.mk a8 0 none)) a0.toNat a0.toNat), (8, .int .i64 a5), (9, .int .i64 f5), (10, .int .i64 a4)] t') k6 ?_ ?_)
     ·skip
      have k7 := a7.front 0 rfl
      exact ⟨b4, 0, rfl, k7, j0, Sub.k4 rfl rfl rfl rfl (Sub.k2 rfl rfl (Sub.k1 rfl (Sub.nil _)))⟩
     ·rintro t7 _ t' b6 ⟨a6, a4, rfl, a3, a9, k8⟩ t8 c7 b1
      refine AX.sub k8 ?_
      unfold D_spec_l03Orthogonal_s1 at c7
      refine AX.seq (AX.sr (AO.m rfl rfl (AO.m rfl rfl (AO.p rfl (p_len_slice rfl underlying24) (AO.p rfl (p_lss rfl rfl) (AO.nil (AX.cond rfl (fun c8 => ?_) (fun c8 => ?_))))))))
      ·have k9 := bif_t c8 c7
       refine AX.skip (AX.seq (AX.block (AX.sr (AO.a rfl rfl (AO.nil (AX.seq (AX.sr (AO.m rfl rfl (AO.nil (AX.block (AX.seq ?_)))))))))))
       refine DR.startS [false, false, false, false, false, false, false, false, false, false, false, false, false, false, true, false, false] mix (by kernel_rfl) (fun hst => ?_)
       refine DR.p rfl rfl (p_move rfl) (DR.p rfl rfl (p_move rfl) ?_)
       obtain ⟨f6, l0⟩ := chk_some k9
       obtain ⟨l1, t9, c9, f7⟩ := tget t_a2 (lt_len rfl (inR_lt f6))
       refine DR.p rfl rfl (s_indexV (q := off p_a2 + a4.toNat) underlying24 sizeOf27 rfl ((a3.view v_a2).p f7) rfl f6 (o1 _ _)) (DR.r rfl rfl (r_load rfl isAgg27) (one_read ((a3.view v_a2).get _ _ f7) (TVw.at (a3.tview w_a2) c9).inn.bel) ?_)
       obtain ⟨d0, l2⟩ := chk_some l0
       refine DR.p rfl rfl (s_indexV (q := off l1 + 1) underlying27 sizeOf2 rfl ((TVw.at (a3.tview w_a2) c9).p (ints_get (lt_len rfl (inR_lt d0)))) rfl d0 (o1 _ _)) (DR.r rfl rfl (r_load rfl isAgg2) (one_read ((TVw.at (a3.tview w_a2) c9).get _ _ (ints_get (lt_len rfl (inR_lt d0)))) (.of_flat0 rfl)) (DR.p rfl rfl (p_move rfl) (DR.p rfl rfl (p_move rfl) ?_)))
       obtain ⟨f8, l3⟩ := chk_some l2
       obtain ⟨l4, u0, d1, f9⟩ := tget t_a2 (lt_len rfl (inR_lt f8))
       refine DR.p rfl rfl (s_indexV (q := off p_a2 + a4.toNat) underlying24 sizeOf27 rfl ((a3.view v_a2).p f9) rfl f8 (o1 _ _)) (DR.r rfl rfl (r_load rfl isAgg27) (one_read ((a3.view v_a2).get _ _ f9) (TVw.at (a3.tview w_a2) d1).inn.bel) ?_)
       obtain ⟨d2, l5⟩ := chk_some l3
       refine DR.p rfl rfl (s_indexV (q := off l4 + 0) underlying27 sizeOf2 rfl ((TVw.at (a3.tview w_a2) d1).p (ints_get (lt_len rfl (inR_lt d2)))) rfl d2 (o1 _ _)) (DR.r rfl rfl (r_load rfl isAgg2) (one_read ((TVw.at (a3.tview w_a2) d1).get _ _ (ints_get (lt_len rfl (inR_lt d2)))) (.of_flat0 rfl)) ?_)
       obtain ⟨l6, l7⟩ := chk_some l5
       refine DR.p rfl rfl (p_subE rfl rfl l6) (DR.p rfl rfl (p_move rfl) ?_)
       obtain ⟨l8, l9, g0⟩ := bnd_some l7
       refine DR.w rfl rfl (o_call (vs := [.int .i64 (rd (rw_ a2 a4.toNat) 1 - (rd (rw_ a2 a4.toNat) 0)), .int .i64 a0]) rfl Tryz.call80 (W_spec_l03Mod fu b6 (rd (rw_ a2 a4.toNat) 1 - (rd (rw_ a2 a4.toNat) 0)) a0 l8 l9)) (Nat.le_refl _) (DR.p rfl rfl (p_eql rfl rfl) (DR.p rfl rfl (p_assign rfl) (DR.nil 17 [] hst (by kernel_rfl) trivial (AX.cond rfl (fun d3 => ?_) (fun d3 => ?_)))))
       ·have m0 := bif_t d3 g0
        refine DR.startS [false, false, false, false, false, false, false, false, false, false, false, false, false, false, true, false] mix (by kernel_rfl) (fun hst => ?_)
        refine DR.p rfl rfl (p_move rfl) (DR.p rfl rfl (p_move rfl) ?_)
        obtain ⟨g1, m1⟩ := chk_some m0
        obtain ⟨m2, u1, d4, g2⟩ := tget t_a2 (lt_len rfl (inR_lt g1))
        refine DR.p rfl rfl (s_indexV (q := off p_a2 + a4.toNat) underlying24 sizeOf27 rfl ((a3.view v_a2).p g2) rfl g1 (o1 _ _)) (DR.r rfl rfl (r_load rfl isAgg27) (one_read ((a3.view v_a2).get _ _ g2) (TVw.at (a3.tview w_a2) d4).inn.bel) ?_)
        obtain ⟨d5, m3⟩ := chk_some m1
        refine DR.p rfl rfl (s_indexV (q := off m2 + 0) underlying27 sizeOf2 rfl ((TVw.at (a3.tview w_a2) d4).p (ints_get (lt_len rfl (inR_lt d5)))) rfl d5 (o1 _ _)) (DR.r rfl rfl (r_load rfl isAgg2) (one_read ((TVw.at (a3.tview w_a2) d4).get _ _ (ints_get (lt_len rfl (inR_lt d5)))) (.of_flat0 rfl)) (DR.p rfl rfl (p_move rfl) (DR.p rfl rfl (p_move rfl) ?_)))
        obtain ⟨g3, m4⟩ := chk_some m3
        obtain ⟨m5, u2, d6, g4⟩ := tget t_a1 (lt_len rfl (inR_lt g3))
        refine DR.p rfl rfl (s_indexV (q := off p_a1 + a5.toNat) underlying24 sizeOf27 rfl ((a3.view v_a1).p g4) rfl g3 (o1 _ _)) (DR.r rfl rfl (r_load rfl isAgg27) (one_read ((a3.view v_a1).get _ _ g4) (TVw.at (a3.tview w_a1) d6).inn.bel) ?_)
        obtain ⟨d7, m6⟩ := chk_some m4
        refine DR.p rfl rfl (s_indexV (q := off m5 + 0) underlying27 sizeOf2 rfl ((TVw.at (a3.tview w_a1) d6).p (ints_get (lt_len rfl (inR_lt d7)))) rfl d7 (o1 _ _)) (DR.r rfl rfl (r_load rfl isAgg2) (one_read ((TVw.at (a3.tview w_a1) d6).get _ _ (ints_get (lt_len rfl (inR_lt d7)))) (.of_flat0 rfl)) ?_)
        obtain ⟨m7, m8⟩ := chk_some m6
        refine DR.p rfl rfl (p_subE rfl rfl m7) (DR.p rfl rfl (p_move rfl) ?_)
        obtain ⟨b2, m9, n0⟩ := bnd_some m8
        refine DR.w rfl rfl (o_call (vs := [.int .i64 (rd (rw_ a2 a4.toNat) 0 - (rd (rw_ a1 a5.toNat) 0)), .int .i64 a0]) rfl Tryz.call80 (W_spec_l03Mod fu b6 (rd (rw_ a2 a4.toNat) 0 - (rd (rw_ a1 a5.toNat) 0)) a0 b2 m9)) (Nat.le_refl _) (DR.p rfl rfl (p_assign rfl) (DR.nil 16 [] hst (by kernel_rfl) trivial (AX.seq (AX.sr (AO.m rfl rfl (AO.m rfl rfl ?_))))))
        obtain ⟨g5, g6⟩ := chk_some n0
        refine AO.p rfl (s_indexV (q := b2.toNat) underlying76 sizeOf4 rfl rfl rfl g5 (z1 _)) (AO.c rfl (s_load isAgg4 rfl (row_cell (a3.get (k := 0) rfl) (bls_get (lt_len a9 (inR_lt g5))))) (AO.nil (AX.cond rfl (fun d8 => ?_) (fun d8 => ?_))))
        ·have n1 := bif_t d8 g6
         refine AX.sr (AO.a rfl rfl (AO.nil (AX.ret ?_)))
         obtain rfl := some_inj n1
         have n2 : _ = c5 := b1
         subst n2
         obtain rfl := some_inj c6
         have n3 : _ = b7 := b5
         subst n3
         obtain rfl := some_inj b8
         exact ⟨.inr rfl, _, res1 rfl (rv_tmp rfl), rfl, (flatB_ok rfl), a3.hold⟩
        ·have n4 := bif_f d8 g6
         refine AX.skip (AX.region (AO.m rfl rfl (AO.m rfl rfl ?_)))
         obtain ⟨g7, n5⟩ := chk_some n4
         refine AO.p rfl (s_indexV (q := b2.toNat) underlying76 sizeOf4 rfl rfl rfl g7 (z1 _)) ?_
         obtain ⟨u3, n6, n7⟩ := a3.set (k := 0) (i := a8) rfl (AObj.row false (bls (a6.set b2.toNat true)))
         refine AO.s (s_store sizeOf4 rfl rfl rfl (a3.get (k := 0) rfl) (lt_len ((bls_length _).trans a9) (inR_lt g7)) ((congrArg (fun l => List.set _ _ (AObj.row false l)) (bls_set _ _ _)).trans n6)) (AO.nil (AX.region (AO.m rfl rfl ?_)))
         obtain ⟨n8, n9⟩ := chk_some n5
         refine AO.p rfl (p_addE rfl rfl n8) (AO.a rfl rfl (AO.nil ?_))
         obtain rfl := some_inj n9
         have o0 := n7.front 0 rfl
         exact ⟨((a6.set b2.toNat true), a4 + 1), b1, (a6.set b2.toNat true), (a4 + 1), rfl, o0, (len_set a9), Sub.k4 rfl rfl rfl rfl (Sub.k2 rfl rfl (Sub.k1 rfl (Sub.nil _)))⟩
       ·have o2 := bif_f d3 g0
        refine AX.seq (DR.startS [false, false, false, false, false, false, false, false, false, false, false, false, false, false, true, false, false] mix (by kernel_rfl) (fun hst => ?_))
        refine DR.p rfl rfl (p_move rfl) (DR.p rfl rfl (p_move rfl) ?_)
        obtain ⟨g8, o3⟩ := chk_some o2
        obtain ⟨o4, u4, d9, g9⟩ := tget t_a2 (lt_len rfl (inR_lt g8))
        refine DR.p rfl rfl (s_indexV (q := off p_a2 + a4.toNat) underlying24 sizeOf27 rfl ((a3.view v_a2).p g9) rfl g8 (o1 _ _)) (DR.r rfl rfl (r_load rfl isAgg27) (one_read ((a3.view v_a2).get _ _ g9) (TVw.at (a3.tview w_a2) d9).inn.bel) ?_)
        obtain ⟨e0, o5⟩ := chk_some o3
        refine DR.p rfl rfl (s_indexV (q := off o4 + 0) underlying27 sizeOf2 rfl ((TVw.at (a3.tview w_a2) d9).p (ints_get (lt_len rfl (inR_lt e0)))) rfl e0 (o1 _ _)) (DR.r rfl rfl (r_load rfl isAgg2) (one_read ((TVw.at (a3.tview w_a2) d9).get _ _ (ints_get (lt_len rfl (inR_lt e0)))) (.of_flat0 rfl)) (DR.p rfl rfl (p_move rfl) (DR.p rfl rfl (p_move rfl) ?_)))
        obtain ⟨h0, o6⟩ := chk_some o5
        obtain ⟨o7, u5, e1, h1⟩ := tget t_a2 (lt_len rfl (inR_lt h0))
        refine DR.p rfl rfl (s_indexV (q := off p_a2 + a4.toNat) underlying24 sizeOf27 rfl ((a3.view v_a2).p h1) rfl h0 (o1 _ _)) (DR.r rfl rfl (r_load rfl isAgg27) (one_read ((a3.view v_a2).get _ _ h1) (TVw.at (a3.tview w_a2) e1).inn.bel) ?_)
        obtain ⟨e2, o8⟩ := chk_some o6
        refine DR.p rfl rfl (s_indexV (q := off o7 + 1) underlying27 sizeOf2 rfl ((TVw.at (a3.tview w_a2) e1).p (ints_get (lt_len rfl (inR_lt e2)))) rfl e2 (o1 _ _)) (DR.r rfl rfl (r_load rfl isAgg2) (one_read ((TVw.at (a3.tview w_a2) e1).get _ _ (ints_get (lt_len rfl (inR_lt e2)))) (.of_flat0 rfl)) ?_)
        obtain ⟨o9, p0⟩ := chk_some o8
        refine DR.p rfl rfl (p_subE rfl rfl o9) (DR.p rfl rfl (p_move rfl) ?_)
        obtain ⟨p1, p2, h2⟩ := bnd_some p0
        refine DR.w rfl rfl (o_call (vs := [.int .i64 (rd (rw_ a2 a4.toNat) 0 - (rd (rw_ a2 a4.toNat) 1)), .int .i64 a0]) rfl Tryz.call80 (W_spec_l03Mod fu b6 (rd (rw_ a2 a4.toNat) 0 - (rd (rw_ a2 a4.toNat) 1)) a0 p1 p2)) (Nat.le_refl _) (DR.p rfl rfl (p_eql rfl rfl) (DR.p rfl rfl (p_assign rfl) (DR.nil 17 [] hst (by kernel_rfl) trivial (AX.cond rfl (fun e3 => ?_) (fun e3 => ?_)))))
        ·have p3 := bif_t e3 h2
         refine DR.startS [false, false, false, false, false, false, false, false, false, false, false, false, false, false, true, false] mix (by kernel_rfl) (fun hst => ?_)
         refine DR.p rfl rfl (p_move rfl) (DR.p rfl rfl (p_move rfl) ?_)
         obtain ⟨h3, p4⟩ := chk_some p3
         obtain ⟨p5, u6, e4, h4⟩ := tget t_a2 (lt_len rfl (inR_lt h3))
         refine DR.p rfl rfl (s_indexV (q := off p_a2 + a4.toNat) underlying24 sizeOf27 rfl ((a3.view v_a2).p h4) rfl h3 (o1 _ _)) (DR.r rfl rfl (r_load rfl isAgg27) (one_read ((a3.view v_a2).get _ _ h4) (TVw.at (a3.tview w_a2) e4).inn.bel) ?_)
         obtain ⟨e5, p6⟩ := chk_some p4
         refine DR.p rfl rfl (s_indexV (q := off p5 + 1) underlying27 sizeOf2 rfl ((TVw.at (a3.tview w_a2) e4).p (ints_get (lt_len rfl (inR_lt e5)))) rfl e5 (o1 _ _)) (DR.r rfl rfl (r_load rfl isAgg2) (one_read ((TVw.at (a3.tview w_a2) e4).get _ _ (ints_get (lt_len rfl (inR_lt e5)))) (.of_flat0 rfl)) (DR.p rfl rfl (p_move rfl) (DR.p rfl rfl (p_move rfl) ?_)))
         obtain ⟨h5, p7⟩ := chk_some p6
         obtain ⟨p8, u7, e6, h6⟩ := tget t_a1 (lt_len rfl (inR_lt h5))
         refine DR.p rfl rfl (s_indexV (q := off p_a1 + a5.toNat) underlying24 sizeOf27 rfl ((a3.view v_a1).p h6) rfl h5 (o1 _ _)) (DR.r rfl rfl (r_load rfl isAgg27) (one_read ((a3.view v_a1).get _ _ h6) (TVw.at (a3.tview w_a1) e6).inn.bel) ?_)
         obtain ⟨e7, p9⟩ := chk_some p7
         refine DR.p rfl rfl (s_indexV (q := off p8 + 0) underlying27 sizeOf2 rfl ((TVw.at (a3.tview w_a1) e6).p (ints_get (lt_len rfl (inR_lt e7)))) rfl e7 (o1 _ _)) (DR.r rfl rfl (r_load rfl isAgg2) (one_read ((TVw.at (a3.tview w_a1) e6).get _ _ (ints_get (lt_len rfl (inR_lt e7)))) (.of_flat0 rfl)) ?_)
         obtain ⟨q0, q1⟩ := chk_some p9
         refine DR.p rfl rfl (p_subE rfl rfl q0) (DR.p rfl rfl (p_move rfl) ?_)
         obtain ⟨b3, q2, q3⟩ := bnd_some q1
         refine DR.w rfl rfl (o_call (vs := [.int .i64 (rd (rw_ a2 a4.toNat) 1 - (rd (rw_ a1 a5.toNat) 0)), .int .i64 a0]) rfl Tryz.call80 (W_spec_l03Mod fu b6 (rd (rw_ a2 a4.toNat) 1 - (rd (rw_ a1 a5.toNat) 0)) a0 b3 q2)) (Nat.le_refl _) (DR.p rfl rfl (p_assign rfl) (DR.nil 16 [] hst (by kernel_rfl) trivial (AX.seq (AX.sr (AO.m rfl rfl (AO.m rfl rfl ?_))))))
         obtain ⟨h7, h8⟩ := chk_some q3
         refine AO.p rfl (s_indexV (q := b3.toNat) underlying76 sizeOf4 rfl rfl rfl h7 (z1 _)) (AO.c rfl (s_load isAgg4 rfl (row_cell (a3.get (k := 0) rfl) (bls_get (lt_len a9 (inR_lt h7))))) (AO.nil (AX.cond rfl (fun e8 => ?_) (fun e8 => ?_))))
         ·have q4 := bif_t e8 h8
          refine AX.sr (AO.a rfl rfl (AO.nil (AX.ret ?_)))
          obtain rfl := some_inj q4
          have q5 : _ = c5 := b1
          subst q5
          obtain rfl := some_inj c6
          have q6 : _ = b7 := b5
          subst q6
          obtain rfl := some_inj b8
          exact ⟨.inr rfl, _, res1 rfl (rv_tmp rfl), rfl, (flatB_ok rfl), a3.hold⟩
         ·have q7 := bif_f e8 h8
          refine AX.skip (AX.region (AO.m rfl rfl (AO.m rfl rfl ?_)))
          obtain ⟨h9, q8⟩ := chk_some q7
          refine AO.p rfl (s_indexV (q := b3.toNat) underlying76 sizeOf4 rfl rfl rfl h9 (z1 _)) ?_
          obtain ⟨u8, q9, r1⟩ := a3.set (k := 0) (i := a8) rfl (AObj.row false (bls (a6.set b3.toNat true)))
          refine AO.s (s_store sizeOf4 rfl rfl rfl (a3.get (k := 0) rfl) (lt_len ((bls_length _).trans a9) (inR_lt h9)) ((congrArg (fun l => List.set _ _ (AObj.row false l)) (bls_set _ _ _)).trans q9)) (AO.nil (AX.region (AO.m rfl rfl ?_)))
          obtain ⟨r2, r3⟩ := chk_some q8
          refine AO.p rfl (p_addE rfl rfl r2) (AO.a rfl rfl (AO.nil ?_))
          obtain rfl := some_inj r3
          have r4 := r1.front 0 rfl
          exact ⟨((a6.set b3.toNat true), a4 + 1), b1, (a6.set b3.toNat true), (a4 + 1), rfl, r4, (len_set a9), Sub.k4 rfl rfl rfl rfl (Sub.k2 rfl rfl (Sub.k1 rfl (Sub.nil _)))⟩
        ·have r5 := bif_f e3 h2
         refine AX.exit (AX.region (AO.m rfl rfl ?_))
         obtain ⟨r6, r7⟩ := chk_some r5
         refine AO.p rfl (p_addE rfl rfl r6) (AO.a rfl rfl (AO.nil ?_))
         obtain rfl := some_inj r7
         have r8 := a3.front 0 rfl
         exact ⟨(a6, a4 + 1), b1, a6, (a4 + 1), rfl, r8, a9, Sub.k4 rfl rfl rfl rfl (Sub.k2 rfl rfl (Sub.k1 rfl (Sub.nil _)))⟩
      ·have r9 := bif_f c8 c7
       refine AX.exit ?_
       obtain rfl := some_inj r9
       have s0 := a3.front 0 rfl
       exact ⟨a6, b1, s0, a9, Sub.k4 rfl rfl rfl rfl (Sub.k1 rfl (Sub.nil _))⟩
    ·rintro t' u9 ⟨b0, rfl, s1, s2, s3⟩
     refine ⟨_, s3, ?_⟩
     refine AX.region (AO.m rfl rfl ?_)
     obtain ⟨s4, s5⟩ := chk_some c6
     refine AO.p rfl (p_addE rfl rfl s4) (AO.a rfl rfl (AO.nil ?_))
     obtain rfl := some_inj s5
     have s6 := s1.front 0 rfl
     exact ⟨(b0, a5 + 1), b5, b0, (a5 + 1), rfl, s6, s2, Sub.k4 rfl rfl rfl rfl (Sub.k1 rfl (Sub.nil _))⟩
   ·have s7 := bif_f c0 b9
    refine AX.exit ?_
    obtain rfl := some_inj s7
    have s8 := a7.keep 0
    exact ⟨b5, s8, Sub.nil _⟩
 ·rintro t' v0 ⟨rfl, s9, t0⟩
  refine ⟨_, t0, ?_⟩
  refine AX.sr (AO.a rfl rfl (AO.nil (AX.ret ?_)))
  obtain rfl := some_inj b8
  exact ⟨.inr rfl, _, res1 rfl (rv_tmp rfl), rfl, (flatB_ok rfl), s9.hold⟩
set_option maxHeartbeats 4000000 in
theorem W_spec_AreOrthogonal (fu : Nat) (H : AHeap) (a0 : Int) (p_a1 : Option Addr) (c_a1 : Nat) (T_a1 : Tb) (a1 : List (List Int)) (t_a1 : trows T_a1 = a1) (v_a1 : Vw H p_a1 a1.length c_a1 (tcells T_a1)) (w_a1 : TVw H T_a1) (p_a2 : Option Addr) (c_a2 : Nat) (T_a2 : Tb) (a2 : List (List Int)) (t_a2 : trows T_a2 = a2) (v_a2 : Vw H p_a2 a2.length c_a2 (tcells T_a2)) (w_a2 : TVw H T_a2) (r0 : Bool) (r1 : Int) (hd : D_spec_AreOrthogonal fu a0 a1 a2 = some (r0, r1)) : ACall Tryz.prog 22 [.int .i64 a0, .slice p_a1 a1.length c_a1, .slice p_a2 a2.length c_a2] H (.tuple #[.bool r0, .int .i64 r1]) H := by
 refine ACall.bodyP (N := 37) [(0, .int .i64 a0), (1, .slice p_a1 a1.length c_a1), (2, .slice p_a2 a2.length c_a2)] Tryz.func22 rfl rfl rfl rfl ?_
 unfold D_spec_AreOrthogonal at hd
 have S0 : St [] H H [] := St.nil H
 refine AX.sr (AO.a rfl rfl (AO.a rfl rfl (AO.nil (AX.seq ?_))))
 obtain ⟨c0, c1, b2⟩ := bnd_some hd
 refine AX.cut (fun t' H' => ∃ (a5 : Bool), a5 = c0 ∧ St [] H H' [] ∧ Am.Sub [(0, .int .i64 a0), (1, .slice p_a1 a1.length c_a1), (2, .slice p_a2 a2.length c_a2), (22, .bool a5)] t') ?_ ?_
 ·skip
  refine AX.region (AO.m rfl rfl ?_)
  obtain ⟨c2, c3, b3⟩ := bnd_some c1
  refine AO.c rfl (o_call (vs := [.int .i64 a0]) rfl Tryz.call50 (W_spec_l03Modulus fu H a0 c2 c3)) (AO.p rfl (p_not rfl) (AO.m rfl rfl (AO.cases (d := 11) rfl (fun a6 => ?_) (fun a6 => ?_))))
  ·have c4 := bif_t a6 b3
   refine AO.gn rfl rfl rfl (AO.gn rfl rfl rfl (AO.gn rfl rfl rfl (AO.gn rfl rfl rfl (AO.p rfl (p_pickT rfl rfl) (AO.m rfl rfl (AO.gn rfl rfl rfl (AO.gn rfl rfl rfl (AO.gn rfl rfl rfl (AO.gn rfl rfl rfl (AO.p rfl (p_pickT rfl rfl) (AO.nil ?_)))))))))))
   exact ⟨true, (some_inj c4), S0, Sub.k4 rfl rfl rfl rfl (Sub.nil _)⟩
  ·have c5 := bif_f a6 b3
   refine AO.gp rfl rfl rfl (p_move rfl) (AO.gp rfl rfl rfl (p_move rfl) ?_)
   obtain ⟨c6, c7, b4⟩ := bnd_some c5
   refine AO.gc rfl rfl rfl (o_call (vs := [.int .i64 a0, .slice p_a1 a1.length c_a1]) rfl Tryz.call62 (W_spec_l03Lists fu H a0 p_a1 c_a1 T_a1 a1 t_a1 (S0.view v_a1) (S0.tview w_a1) c6 c7)) (AO.gp rfl rfl rfl (p_not rfl) (AO.p rfl (p_pickF rfl rfl) (AO.m rfl rfl (AO.cases (d := 17) rfl (fun a7 => ?_) (fun a7 => ?_)))))
   ·have c8 := bif_t a7 b4
    refine AO.gn rfl rfl rfl (AO.gn rfl rfl rfl (AO.gn rfl rfl rfl (AO.gn rfl rfl rfl (AO.p rfl (p_pickT rfl rfl) (AO.nil ?_)))))
    exact ⟨true, (some_inj c8), S0, Sub.k4 rfl rfl rfl rfl (Sub.nil _)⟩
   ·have c9 := bif_f a7 b4
    refine AO.gp rfl rfl rfl (p_move rfl) (AO.gp rfl rfl rfl (p_move rfl) ?_)
    obtain ⟨b5, d0, d1⟩ := bnd_some c9
    refine AO.gc rfl rfl rfl (o_call (vs := [.int .i64 a0, .slice p_a2 a2.length c_a2]) rfl Tryz.call62 (W_spec_l03Lists fu H a0 p_a2 c_a2 T_a2 a2 t_a2 (S0.view v_a2) (S0.tview w_a2) b5 d0)) (AO.gp rfl rfl rfl (p_not rfl) (AO.p rfl (p_pickF rfl rfl) (AO.nil ?_)))
    exact ⟨(!b5), (some_inj d1), S0, Sub.k4 rfl rfl rfl rfl (Sub.nil _)⟩
 ·rintro t' b6 ⟨a5, rfl, a3, d2⟩
  refine AX.sub d2 (AX.cond rfl (fun a8 => ?_) (fun a8 => ?_))
  ·have d3 := bif_t a8 b2
   refine AX.sr (AO.a rfl rfl (AO.a rfl rfl (AO.nil (AX.ret ?_))))
   obtain ⟨rfl, rfl⟩ := Prod.mk.inj (some_inj d3)
   exact ⟨.inr rfl, _, res2 rfl (rv_tmp rfl) (rv_tmp rfl), rfl, (flat_t2 (flatB_ok rfl) (flatB_ok rfl)), a3.hold⟩
  ·have d4 := bif_f a8 b2
   refine AX.skip (AX.seq ?_)
   obtain ⟨d5, d6, b7⟩ := bnd_some d4
   refine AX.cut (fun t' H' => ∃ (a9 : Bool), a9 = d5 ∧ St [] H H' [] ∧ Am.Sub [(0, .int .i64 a0), (1, .slice p_a1 a1.length c_a1), (2, .slice p_a2 a2.length c_a2), (32, .bool a9)] t') ?_ ?_
   ·skip
    refine AX.region (AO.m rfl rfl (AO.m rfl rfl ?_))
    obtain ⟨d7, d8, b8⟩ := bnd_some d6
    refine AO.c rfl (o_call (vs := [.int .i64 a0, .slice p_a1 a1.length c_a1]) rfl Tryz.call63 (W_spec_l03Is fu b6 a0 p_a1 c_a1 T_a1 a1 t_a1 (a3.view v_a1) (a3.tview w_a1) d7 d8)) (AO.p rfl (p_not rfl) (AO.m rfl rfl (AO.cases (d := 27) rfl (fun b0 => ?_) (fun b0 => ?_))))
    ·have d9 := bif_t b0 b8
     refine AO.gn rfl rfl rfl (AO.gn rfl rfl rfl (AO.gn rfl rfl rfl (AO.gn rfl rfl rfl (AO.p rfl (p_pickT rfl rfl) (AO.nil ?_)))))
     exact ⟨true, (some_inj d9), a3, Sub.k4 rfl rfl rfl rfl (Sub.nil _)⟩
    ·have e0 := bif_f b0 b8
     refine AO.gp rfl rfl rfl (p_move rfl) (AO.gp rfl rfl rfl (p_move rfl) ?_)
     obtain ⟨b9, e1, e2⟩ := bnd_some e0
     refine AO.gc rfl rfl rfl (o_call (vs := [.int .i64 a0, .slice p_a2 a2.length c_a2]) rfl Tryz.call63 (W_spec_l03Is fu b6 a0 p_a2 c_a2 T_a2 a2 t_a2 (a3.view v_a2) (a3.tview w_a2) b9 e1)) (AO.gp rfl rfl rfl (p_not rfl) (AO.p rfl (p_pickF rfl rfl) (AO.nil ?_)))
     exact ⟨(!b9), (some_inj e2), a3, Sub.k4 rfl rfl rfl rfl (Sub.nil _)⟩
   ·rintro t' e3 ⟨a9, rfl, a4, e4⟩
    refine AX.sub e4 (AX.cond rfl (fun b1 => ?_) (fun b1 => ?_))
    ·have e5 := bif_t b1 b7
     refine AX.sr (AO.a rfl rfl (AO.a rfl rfl (AO.nil (AX.ret ?_))))
     obtain ⟨rfl, rfl⟩ := Prod.mk.inj (some_inj e5)
     exact ⟨.inr rfl, _, res2 rfl (rv_tmp rfl) (rv_tmp rfl), rfl, (flat_t2 (flatB_ok rfl) (flatB_ok rfl)), a4.hold⟩
    ·have e6 := bif_f b1 b7
     refine AX.skip (AX.sr (AO.m rfl rfl (AO.m rfl rfl (AO.m rfl rfl ?_))))
     obtain ⟨e7, e8, e9⟩ := bnd_some e6
     refine AO.c rfl (o_call (vs := [.int .i64 a0, .slice p_a1 a1.length c_a1, .slice p_a2 a2.length c_a2]) rfl Tryz.call64 (W_spec_l03Orthogonal fu e3 a0 p_a1 c_a1 T_a1 a1 t_a1 (a4.view v_a1) (a4.tview w_a1) p_a2 c_a2 T_a2 a2 t_a2 (a4.view v_a2) (a4.tview w_a2) e7 e8)) (AO.a rfl rfl (AO.a rfl rfl (AO.nil (AX.ret ?_))))
     obtain ⟨rfl, rfl⟩ := Prod.mk.inj (some_inj e9)
     exact ⟨.inr rfl, _, res2 rfl (rv_tmp rfl) (rv_tmp rfl), rfl, (flat_t2 (flatB_ok rfl) (flatB_ok rfl)), a4.hold⟩
set_option maxHeartbeats 4000000 in
theorem W_impl_AreOrthogonal (fu : Nat) (H : AHeap) (a0 : Int) (p_a1 : Option Addr) (c_a1 : Nat) (T_a1 : Tb) (a1 : List (List Int)) (t_a1 : trows T_a1 = a1) (v_a1 : Vw H p_a1 a1.length c_a1 (tcells T_a1)) (w_a1 : TVw H T_a1) (p_a2 : Option Addr) (c_a2 : Nat) (T_a2 : Tb) (a2 : List (List Int)) (t_a2 : trows T_a2 = a2) (v_a2 : Vw H p_a2 a2.length c_a2 (tcells T_a2)) (w_a2 : TVw H T_a2) (r0 : Bool) (r1 : Int) (hd : D_impl_AreOrthogonal fu a0 a1 a2 = some (r0, r1)) : ACall Tryz.prog 13 [.int .i64 a0, .slice p_a1 a1.length c_a1, .slice p_a2 a2.length c_a2] H (.tuple #[.bool r0, .int .i64 r1]) H := by
 refine ACall.bodyP (N := 90) [(0, .int .i64 a0), (1, .slice p_a1 a1.length c_a1), (2, .slice p_a2 a2.length c_a2)] Tryz.func13 rfl rfl rfl rfl ?_
 unfold D_impl_AreOrthogonal at hd
 have S0 : St [] H H [] := St.nil H
 refine AX.sr (AO.a rfl rfl (AO.a rfl rfl (AO.nil (AX.seq (AX.sr (AO.m rfl rfl (AO.m rfl rfl (AO.m rfl rfl ?_))))))))
 obtain ⟨g1, c6, g2, g3, b0⟩ := S0.new (AObj.row false ([.slice p_a1 a1.length c_a1, .slice p_a2 a2.length c_a2]))
 refine AO.c rfl (s_buildSl (i := c6) (vs := [(0, .slice p_a1 a1.length c_a1), (1, .slice p_a2 a2.length c_a2)]) (cs := [.slice p_a1 a1.length c_a1, .slice p_a2 a2.length c_a2]) underlying66 sizeOf24 zeroValue24 rfl rfl (by decide) rfl rfl g2 g3) ?_
 obtain ⟨g4, g5, e4⟩ := bnd_some hd
 refine AO.c rfl (o_call (vs := [.int .i64 a0, .func (.func 28) #[] #[], .slice (some (Addr.mk c6 0 none)) 2 2]) rfl Tryz.call27 (W_impl_starterCode fu g1 a0 28 #[] #[] (fun _ => D_impl_always fu ) Tryz.call28 (fun G' hG  b' hb' => W_impl_always fu G'  b' hb') (some (Addr.mk c6 0 none)) 2 [(p_a1, c_a1, T_a1), (p_a2, c_a2, T_a2)] [a1, a2] (trows3_2 t_a1 t_a2) (vw3_2 (b0.get (k := 0) rfl) t_a1 rfl t_a2 rfl) (TVw3.cons (b0.view v_a1) t_a1 rfl (b0.tview w_a1) (TVw3.cons (b0.view v_a2) t_a2 rfl (b0.tview w_a2) TVw3.nil)) g4 g5)) (AO.a rfl rfl (AO.nil (AX.sr (AO.m rfl rfl (AO.p rfl (p_neq rfl rfl) (AO.nil (AX.cond rfl (fun c7 => ?_) (fun c7 => ?_))))))))
 ·have g6 := bif_t c7 e4
  refine AX.sr (AO.m rfl rfl (AO.a rfl rfl (AO.a rfl rfl (AO.nil (AX.ret ?_)))))
  obtain ⟨rfl, rfl⟩ := Prod.mk.inj (some_inj g6)
  exact ⟨.inr rfl, _, res2 rfl (rv_tmp rfl) (rv_tmp rfl), rfl, (flat_t2 (flatB_ok rfl) (flatB_ok rfl)), b0.hold⟩
 ·have g7 := bif_f c7 e4
  refine AX.skip (AX.sr ?_)
  obtain ⟨q3, e5, g8, g9, h0⟩ := b0.new (AObj.row false (ints []))
  refine AO.c rfl (s_build0 (i := e5) underlying27 sizeOf2 g8 g9) (AO.a rfl rfl (AO.nil (AX.seq (AX.sr (AO.m rfl rfl (AO.p rfl (p_len_slice rfl underlying24) (AO.m rfl rfl (AO.nil ?_))))))))
  obtain ⟨h1, h2, h3⟩ := bnd_some g7
  refine AX.cutS (fun t' H' => ∃ (b1 : List Int) (b4 : Option Addr) (b8 : Nat), b1 = h1 ∧ St [] H H' [oseg b4 (ints b1)] ∧ Sb b4 (b1.length) b8 1 ∧ Am.Sub [(9, .slice b4 b1.length b8)] t') ?_ ?_
  ·refine AX.block (AX.loopF (fun s' t' H' => ∃ (b2 : List Int) (a3 : Int) (b5 : Option Addr) (b9 : Nat), (b2, a3) = s' ∧ St [] H H' [oseg b5 (ints b2)] ∧ Sb b5 (b2.length) b9 1 ∧ Am.Sub [(0, .int .i64 a0), (2, .slice p_a2 a2.length c_a2), (9, .slice b5 b2.length b9), (24, .slice p_a1 a1.length c_a1), (25, .int .i64 ((a1.length : Nat) : Int)), (26, .int .i64 a3)] t') h2 ?_ ?_)
   ·skip
    have h4 := h0.front 0 rfl
    have h5 := h4.keep 1
    exact ⟨[], 0, (some (Addr.mk e5 0 none)), 0, rfl, h5, (Sb.lit (n := 0) (by decide)), Sub.k4 rfl rfl rfl rfl (Sub.k2 rfl rfl (Sub.nil _))⟩
   ·rintro q4 _ t' q5 ⟨b2, a3, b5, b9, rfl, a7, e6, h6⟩ q6 c8 e7
    refine AX.sub h6 ?_
    unfold D_impl_AreOrthogonal_s0 at c8
    refine AX.sr (AO.p rfl (p_lss rfl rfl) (AO.nil (AX.seq (AX.cond rfl (fun c9 => ?_) (fun c9 => ?_)))))
    ·have h7 := bif_t c9 c8
     refine AX.skip (AX.seq (AX.block (AX.sr ?_)))
     obtain ⟨e8, h8⟩ := chk_some h7
     obtain ⟨c0, h9, a8, e9⟩ := tget t_a1 (lt_len rfl (inR_lt e8))
     refine AO.p rfl (s_indexV (q := off p_a1 + a3.toNat) underlying24 sizeOf27 rfl ((a7.view v_a1).p e9) rfl e8 (o1 _ _)) (AO.c rfl (s_load isAgg27 rfl ((a7.view v_a1).get _ _ e9)) (AO.a rfl rfl (AO.nil (AX.seq (DR.startS [false, false, false, false, false, false, false, false] mix (by kernel_rfl) (fun hst => ?_))))))
     refine DR.p rfl rfl (p_move rfl) ?_
     obtain ⟨d0, i0⟩ := chk_some h8
     refine DR.p rfl rfl (s_indexV (q := off c0 + 1) underlying27 sizeOf2 rfl ((TVw.at (a7.tview w_a1) a8).p (ints_get (lt_len rfl (inR_lt d0)))) rfl d0 (o1 _ _)) (DR.r rfl rfl (r_load rfl isAgg2) (one_read ((TVw.at (a7.tview w_a1) a8).get _ _ (ints_get (lt_len rfl (inR_lt d0)))) (.of_flat0 rfl)) (DR.p rfl rfl (p_move rfl) ?_))
     obtain ⟨d1, i1⟩ := chk_some i0
     refine DR.p rfl rfl (s_indexV (q := off c0 + 0) underlying27 sizeOf2 rfl ((TVw.at (a7.tview w_a1) a8).p (ints_get (lt_len rfl (inR_lt d1)))) rfl d1 (o1 _ _)) (DR.r rfl rfl (r_load rfl isAgg2) (one_read ((TVw.at (a7.tview w_a1) a8).get _ _ (ints_get (lt_len rfl (inR_lt d1)))) (.of_flat0 rfl)) ?_)
     obtain ⟨i2, i3⟩ := chk_some i1
     refine DR.p rfl rfl (p_subE rfl rfl i2) (DR.p rfl rfl (p_assign rfl) (DR.nil 8 [] hst (by kernel_rfl) trivial (AX.sr (AO.m rfl rfl (AO.p rfl (p_len_slice rfl underlying24) (AO.m rfl rfl (AO.nil ?_)))))))
     obtain ⟨i4, i5, i6⟩ := bnd_some i3
     refine AX.cutS (fun t' H' => ∃ (b3 : List Int) (c1 : Option Addr) (c3 : Nat), b3 = i4 ∧ St [] H H' [oseg c1 (ints b3)] ∧ Sb c1 (b3.length) c3 1 ∧ Am.Sub [(0, .int .i64 a0), (2, .slice p_a2 a2.length c_a2), (9, .slice c1 b3.length c3), (24, .slice p_a1 a1.length c_a1), (25, .int .i64 ((a1.length : Nat) : Int)), (26, .int .i64 a3)] t') ?_ ?_
     ·refine AX.block (AX.loopF (fun s' t' H' => ∃ (a5 : List Int) (a4 : Int) (b6 : Option Addr) (c2 : Nat), (a5, a4) = s' ∧ St [] H H' [oseg b6 (ints a5)] ∧ Sb b6 (a5.length) c2 1 ∧ Am.Sub [(0, .int .i64 a0), (2, .slice p_a2 a2.length c_a2), (9, .slice b6 a5.length c2), (11, .slice c0 ((rw_ a1 a3.toNat).length) h9), (12, .int .i64 (rd (rw_ a1 a3.toNat) 1 - (rd (rw_ a1 a3.toNat) 0))), (24, .slice p_a1 a1.length c_a1), (25, .int .i64 ((a1.length : Nat) : Int)), (26, .int .i64 a3), (37, .slice p_a2 a2.length c_a2), (38, .int .i64 ((a2.length : Nat) : Int)), (39, .int .i64 a4)] t') i5 ?_ ?_)
      ·skip
       have i7 := a7.front 0 rfl
       exact ⟨b2, 0, b5, b9, rfl, i7, e6, Sub.k8 rfl rfl rfl rfl rfl rfl rfl rfl (Sub.k2 rfl rfl (Sub.k1 rfl (Sub.nil _)))⟩
      ·rintro q7 _ t' q8 ⟨a5, a4, b6, c2, rfl, a6, b7, i8⟩ q9 d2 c4
       refine AX.sub i8 ?_
       unfold D_impl_AreOrthogonal_s1 at d2
       refine AX.sr (AO.p rfl (p_lss rfl rfl) (AO.nil (AX.seq (AX.cond rfl (fun d3 => ?_) (fun d3 => ?_)))))
       ·have i9 := bif_t d3 d2
        refine AX.skip (AX.seq (AX.block (AX.sr ?_)))
        obtain ⟨f0, j0⟩ := chk_some i9
        obtain ⟨c5, r2, a9, f1⟩ := tget t_a2 (lt_len rfl (inR_lt f0))
        refine AO.p rfl (s_indexV (q := off p_a2 + a4.toNat) underlying24 sizeOf27 rfl ((a6.view v_a2).p f1) rfl f0 (o1 _ _)) (AO.c rfl (s_load isAgg27 rfl ((a6.view v_a2).get _ _ f1)) (AO.a rfl rfl (AO.nil (AX.seq (DR.startS [false, false, false, false, false, false, false] mix (by kernel_rfl) (fun hst => ?_))))))
        refine DR.p rfl rfl (p_move rfl) ?_
        obtain ⟨d4, j1⟩ := chk_some j0
        refine DR.p rfl rfl (s_indexV (q := off c5 + 1) underlying27 sizeOf2 rfl ((TVw.at (a6.tview w_a2) a9).p (ints_get (lt_len rfl (inR_lt d4)))) rfl d4 (o1 _ _)) (DR.r rfl rfl (r_load rfl isAgg2) (one_read ((TVw.at (a6.tview w_a2) a9).get _ _ (ints_get (lt_len rfl (inR_lt d4)))) (.of_flat0 rfl)) (DR.p rfl rfl (p_move rfl) ?_))
        obtain ⟨d5, j2⟩ := chk_some j1
        refine DR.p rfl rfl (s_indexV (q := off c5 + 0) underlying27 sizeOf2 rfl ((TVw.at (a6.tview w_a2) a9).p (ints_get (lt_len rfl (inR_lt d5)))) rfl d5 (o1 _ _)) (DR.r rfl rfl (r_load rfl isAgg2) (one_read ((TVw.at (a6.tview w_a2) a9).get _ _ (ints_get (lt_len rfl (inR_lt d5)))) (.of_flat0 rfl)) ?_)
        obtain ⟨j3, f2⟩ := chk_some j2
        refine DR.p rfl rfl (p_subE rfl rfl j3) (DR.nil 7 [] hst (by kernel_rfl) trivial (AX.block (AX.sr (AO.m rfl rfl (AO.p rfl (p_eql rfl rfl) (AO.a rfl rfl (AO.nil (AX.cond rfl (fun d6 => ?_) (fun d6 => ?_)))))))))
        ·have j4 := bif_t d6 f2
         refine DR.startS [false, false, false, false, false, false, false, false, false, false, false, false, false, true, false] mix (by kernel_rfl) (fun hst => ?_)
         refine DR.p rfl rfl (p_move rfl) (DR.p rfl rfl (p_move rfl) ?_)
         obtain ⟨d7, j5⟩ := chk_some j4
         refine DR.p rfl rfl (s_indexV (q := off c5 + 0) underlying27 sizeOf2 rfl ((TVw.at (a6.tview w_a2) a9).p (ints_get (lt_len rfl (inR_lt d7)))) rfl d7 (o1 _ _)) (DR.r rfl rfl (r_load rfl isAgg2) (one_read ((TVw.at (a6.tview w_a2) a9).get _ _ (ints_get (lt_len rfl (inR_lt d7)))) (.of_flat0 rfl)) (DR.p rfl rfl (p_move rfl) ?_))
         obtain ⟨d8, j6⟩ := chk_some j5
         refine DR.p rfl rfl (s_indexV (q := off c0 + 0) underlying27 sizeOf2 rfl ((TVw.at (a6.tview w_a1) a8).p (ints_get (lt_len rfl (inR_lt d8)))) rfl d8 (o1 _ _)) (DR.r rfl rfl (r_load rfl isAgg2) (one_read ((TVw.at (a6.tview w_a1) a8).get _ _ (ints_get (lt_len rfl (inR_lt d8)))) (.of_flat0 rfl)) ?_)
         obtain ⟨j7, j8⟩ := chk_some j6
         refine DR.p rfl rfl (p_subE rfl rfl j7) (DR.p rfl rfl (p_move rfl) ?_)
         obtain ⟨j9, k0⟩ := chk_some j8
         refine DR.p rfl rfl (p_addE rfl rfl j9) (DR.p rfl rfl (p_move rfl) ?_)
         obtain ⟨k3, k5⟩ := chk_some k0
         refine DR.p rfl rfl (p_remE rfl rfl k3) ?_
         obtain ⟨r3, r4, k6, k7, d9⟩ := a6.new (AObj.row false (ints [(rd (rw_ a2 a4.toNat) 0 - (rd (rw_ a1 a3.toNat) 0) + a0).tmod a0]))
         refine DR.a rfl rfl k6 k7 (a_buildInts (vs := [(0, .int .i64 ((rd (rw_ a2 a4.toNat) 0 - (rd (rw_ a1 a3.toNat) 0) + a0).tmod a0))]) (xs := [(rd (rw_ a2 a4.toNat) 0 - (rd (rw_ a1 a3.toNat) 0) + a0).tmod a0]) underlying27 sizeOf2 zeroValue2 rfl rfl (by decide) rfl rfl) ?_
         obtain ⟨k9, l0⟩ := chk_some k5
         obtain ⟨f3, f4, r5, f5, l1, l2⟩ := d9.app (k := 1) rfl b7 (ints [(rd (rw_ a2 a4.toNat) 0 - (rd (rw_ a1 a3.toNat) 0) + a0).tmod a0]) 1 (ints_len1 rfl)
         have l3 := l1.cellsEq (k := 1) (us' := ints (a5 ++ [(rd (rw_ a2 a4.toNat) 0 - (rd (rw_ a1 a3.toNat) 0) + a0).tmod a0])) (ints_app _ _) rfl
         have l4 : Sb f3 ((a5 ++ [(rd (rw_ a2 a4.toNat) 0 - (rd (rw_ a1 a3.toNat) 0) + a0).tmod a0]).length) f4 1 := (show a5.length + 1 = (a5 ++ [(rd (rw_ a2 a4.toNat) 0 - (rd (rw_ a1 a3.toNat) 0) + a0).tmod a0]).length from len_app (a := a5) (b := [(rd (rw_ a2 a4.toNat) 0 - (rd (rw_ a1 a3.toNat) 0) + a0).tmod a0]) rfl rfl) ▸ l2
         have l5 := l3.drop 0 rfl
         refine DR.w rfl rfl (s_app (by_ := 8) (us := ints a5) (vs := ints [(rd (rw_ a2 a4.toNat) 0 - (rd (rw_ a1 a3.toNat) 0) + a0).tmod a0]) underlying27 underlying27 typeInfo2 sizeOf2 zeroValue2 rfl rfl rfl rfl rfl rfl rfl (d9.buf (k := 1) rfl b7 (ints_len1 rfl)) (d9.oview (k := 0) rfl (Sb.lit (n := 1) (by decide)) (ints_len1 rfl)) (ints_len1 rfl) ints_one k9 f5 (show a5.length + 1 = (a5 ++ [(rd (rw_ a2 a4.toNat) 0 - (rd (rw_ a1 a3.toNat) 0) + a0).tmod a0]).length from len_app (a := a5) (b := [(rd (rw_ a2 a4.toNat) 0 - (rd (rw_ a1 a3.toNat) 0) + a0).tmod a0]) rfl rfl)) (appR_len f5) (DR.p rfl rfl (p_assign rfl) (DR.nil 15 [] hst (by kernel_rfl) trivial (AX.region ?_)))
         obtain ⟨l6, l7⟩ := chk_some l0
         refine AO.p rfl (p_addE rfl rfl l6) (AO.m rfl rfl (AO.nil ?_))
         obtain rfl := some_inj l7
         have l8 := l5.front 0 rfl
         exact ⟨((a5 ++ [(rd (rw_ a2 a4.toNat) 0 - (rd (rw_ a1 a3.toNat) 0) + a0).tmod a0]), a4 + 1), c4, (a5 ++ [(rd (rw_ a2 a4.toNat) 0 - (rd (rw_ a1 a3.toNat) 0) + a0).tmod a0]), (a4 + 1), f3, f4, rfl, l8, l4, Sub.k8 rfl rfl rfl rfl rfl rfl rfl rfl (Sub.k2 rfl rfl (Sub.k1 rfl (Sub.nil _)))⟩
        ·have l9 := bif_f d6 f2
         refine AX.sr (AO.m rfl rfl (AO.m rfl rfl ?_))
         obtain ⟨m0, f6⟩ := chk_some l9
         refine AO.p rfl (p_subE rfl rfl m0) (AO.p rfl (p_eql rfl rfl) (AO.a rfl rfl (AO.nil (AX.cond rfl (fun e0 => ?_) (fun e0 => ?_)))))
         ·have m1 := bif_t e0 f6
          refine DR.startS [false, false, false, false, false, false, false, false, false, false, false, false, false, true, false] mix (by kernel_rfl) (fun hst => ?_)
          refine DR.p rfl rfl (p_move rfl) (DR.p rfl rfl (p_move rfl) ?_)
          obtain ⟨e1, m2⟩ := chk_some m1
          refine DR.p rfl rfl (s_indexV (q := off c5 + 1) underlying27 sizeOf2 rfl ((TVw.at (a6.tview w_a2) a9).p (ints_get (lt_len rfl (inR_lt e1)))) rfl e1 (o1 _ _)) (DR.r rfl rfl (r_load rfl isAgg2) (one_read ((TVw.at (a6.tview w_a2) a9).get _ _ (ints_get (lt_len rfl (inR_lt e1)))) (.of_flat0 rfl)) (DR.p rfl rfl (p_move rfl) ?_))
          obtain ⟨e2, m3⟩ := chk_some m2
          refine DR.p rfl rfl (s_indexV (q := off c0 + 0) underlying27 sizeOf2 rfl ((TVw.at (a6.tview w_a1) a8).p (ints_get (lt_len rfl (inR_lt e2)))) rfl e2 (o1 _ _)) (DR.r rfl rfl (r_load rfl isAgg2) (one_read ((TVw.at (a6.tview w_a1) a8).get _ _ (ints_get (lt_len rfl (inR_lt e2)))) (.of_flat0 rfl)) ?_)
          obtain ⟨m4, m5⟩ := chk_some m3
          refine DR.p rfl rfl (p_subE rfl rfl m4) (DR.p rfl rfl (p_move rfl) ?_)
          obtain ⟨m6, m7⟩ := chk_some m5
          refine DR.p rfl rfl (p_addE rfl rfl m6) (DR.p rfl rfl (p_move rfl) ?_)
          obtain ⟨m8, m9⟩ := chk_some m7
          refine DR.p rfl rfl (p_remE rfl rfl m8) ?_
          obtain ⟨r6, r7, n0, n1, e3⟩ := a6.new (AObj.row false (ints [(rd (rw_ a2 a4.toNat) 1 - (rd (rw_ a1 a3.toNat) 0) + a0).tmod a0]))
          refine DR.a rfl rfl n0 n1 (a_buildInts (vs := [(0, .int .i64 ((rd (rw_ a2 a4.toNat) 1 - (rd (rw_ a1 a3.toNat) 0) + a0).tmod a0))]) (xs := [(rd (rw_ a2 a4.toNat) 1 - (rd (rw_ a1 a3.toNat) 0) + a0).tmod a0]) underlying27 sizeOf2 zeroValue2 rfl rfl (by decide) rfl rfl) ?_
          obtain ⟨n2, n3⟩ := chk_some m9
          obtain ⟨f7, f8, r8, f9, n4, n5⟩ := e3.app (k := 1) rfl b7 (ints [(rd (rw_ a2 a4.toNat) 1 - (rd (rw_ a1 a3.toNat) 0) + a0).tmod a0]) 1 (ints_len1 rfl)
          have n6 := n4.cellsEq (k := 1) (us' := ints (a5 ++ [(rd (rw_ a2 a4.toNat) 1 - (rd (rw_ a1 a3.toNat) 0) + a0).tmod a0])) (ints_app _ _) rfl
          have n7 : Sb f7 ((a5 ++ [(rd (rw_ a2 a4.toNat) 1 - (rd (rw_ a1 a3.toNat) 0) + a0).tmod a0]).length) f8 1 := (show a5.length + 1 = (a5 ++ [(rd (rw_ a2 a4.toNat) 1 - (rd (rw_ a1 a3.toNat) 0) + a0).tmod a0]).length from len_app (a := a5) (b := [(rd (rw_ a2 a4.toNat) 1 - (rd (rw_ a1 a3.toNat) 0) + a0).tmod a0]) rfl rfl) ▸ n5
          have n8 := n6.drop 0 rfl
          refine DR.w rfl rfl (s_app (by_ := 8) (us := ints a5) (vs := ints [(rd (rw_ a2 a4.toNat) 1 - (rd (rw_ a1 a3.toNat) 0) + a0).tmod a0]) underlying27 underlying27 typeInfo2 sizeOf2 zeroValue2 rfl rfl rfl rfl rfl rfl rfl (e3.buf (k := 1) rfl b7 (ints_len1 rfl)) (e3.oview (k := 0) rfl (Sb.lit (n := 1) (by decide)) (ints_len1 rfl)) (ints_len1 rfl) ints_one n2 f9 (show a5.length + 1 = (a5 ++ [(rd (rw_ a2 a4.toNat) 1 - (rd (rw_ a1 a3.toNat) 0) + a0).tmod a0]).length from len_app (a := a5) (b := [(rd (rw_ a2 a4.toNat) 1 - (rd (rw_ a1 a3.toNat) 0) + a0).tmod a0]) rfl rfl)) (appR_len f9) (DR.p rfl rfl (p_assign rfl) (DR.nil 15 [] hst (by kernel_rfl) trivial (AX.region ?_)))
          obtain ⟨n9, o0⟩ := chk_some n3
          refine AO.p rfl (p_addE rfl rfl n9) (AO.m rfl rfl (AO.nil ?_))
          obtain rfl := some_inj o0
          have o2 := n8.front 0 rfl
          exact ⟨((a5 ++ [(rd (rw_ a2 a4.toNat) 1 - (rd (rw_ a1 a3.toNat) 0) + a0).tmod a0]), a4 + 1), c4, (a5 ++ [(rd (rw_ a2 a4.toNat) 1 - (rd (rw_ a1 a3.toNat) 0) + a0).tmod a0]), (a4 + 1), f7, f8, rfl, o2, n7, Sub.k8 rfl rfl rfl rfl rfl rfl rfl rfl (Sub.k2 rfl rfl (Sub.k1 rfl (Sub.nil _)))⟩
         ·have o3 := bif_f e0 f6
          refine AX.skip (AX.region ?_)
          obtain ⟨o4, o5⟩ := chk_some o3
          refine AO.p rfl (p_addE rfl rfl o4) (AO.m rfl rfl (AO.nil ?_))
          obtain rfl := some_inj o5
          have o6 := a6.front 0 rfl
          exact ⟨(a5, a4 + 1), c4, a5, (a4 + 1), b6, c2, rfl, o6, b7, Sub.k8 rfl rfl rfl rfl rfl rfl rfl rfl (Sub.k2 rfl rfl (Sub.k1 rfl (Sub.nil _)))⟩
       ·have o7 := bif_f d3 d2
        refine AX.exit ?_
        obtain rfl := some_inj o7
        have o8 := a6.front 0 rfl
        exact ⟨a5, b6, c2, c4, o8, b7, Sub.k4 rfl rfl rfl rfl (Sub.k2 rfl rfl (Sub.nil _))⟩
     ·rintro t' r9 ⟨b3, c1, c3, rfl, o9, p0, p1⟩
      refine ⟨_, p1, ?_⟩
      refine AX.region ?_
      obtain ⟨p2, p3⟩ := chk_some i6
      refine AO.p rfl (p_addE rfl rfl p2) (AO.m rfl rfl (AO.nil ?_))
      obtain rfl := some_inj p3
      have p4 := o9.front 0 rfl
      exact ⟨(b3, a3 + 1), e7, b3, (a3 + 1), c1, c3, rfl, p4, p0, Sub.k4 rfl rfl rfl rfl (Sub.k2 rfl rfl (Sub.nil _))⟩
    ·have p5 := bif_f c9 c8
     refine AX.exit ?_
     obtain rfl := some_inj p5
     have p6 := a7.front 0 rfl
     exact ⟨b2, b5, b9, e7, p6, e6, Sub.k1 rfl (Sub.nil _)⟩
  ·rintro t' p7 ⟨b1, b4, b8, rfl, g0, p8, p9⟩
   refine ⟨_, p9, ?_⟩
   refine AX.sr (AO.m rfl rfl ?_)
   obtain ⟨q0, q1, q2⟩ := bnd_some h3
   refine AO.c rfl (o_call (vs := [.slice b4 b1.length b8]) rfl Tryz.call44 (W_impl_areDifferent fu p7 b4 b8 b1 (g0.oview (k := 0) rfl p8 (ints_len1 rfl)) q0 q1)) (AO.a rfl rfl (AO.a rfl rfl (AO.nil (AX.ret ?_))))
   obtain ⟨rfl, rfl⟩ := Prod.mk.inj (some_inj q2)
   exact ⟨.inr rfl, _, res2 rfl (rv_tmp rfl) (rv_tmp rfl), rfl, (flat_t2 (flatB_ok rfl) (flatB_ok rfl)), g0.hold⟩
end Go.Proofs.YtdafmafigcljkaaGreat
